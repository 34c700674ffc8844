/- FnExactFeasible: the walks of functions that it reaches (ExactFeasibleBWs,part 3). Printed by gen.py. -/
import Derived.Test.YtkkfmjpbiimkbaaGreatExactFeasibleBWs2
set_option maxRecDepth 20000
set_option linter.unusedSimpArgs false
set_option linter.unusedVariables false
namespace Go.Proofs.YtkkfmjpbiimkbaaGreat
open Go Go.RowKit
open Enc (rd ow)
open Arg (argv)
open Ret (retv)
open Go.Proofs.Tryz

theorem c_spec_l15Cheap (fu:Nat) {w0:World} (r1:Request) (x5:Plan) {Ax:List Value} {F3:List Nat} (Bm:rd w0 F3 Ax r1) {Az:List Value} {F7:List Nat} (Bz:rd w0 F7 Az x5) {r:Bool}
    (h:d_spec_l15Cheap fu r1 x5 = some r) :
    Calls Tryz.prog 109 #[.agg Ax.toArray,.agg Az.toArray] w0 fun e w=>e = .returned (.bool (r)) ∧ Ext [] w0 w:=by
 refine enter (vs:=[_,_]) func109 z ntmps109 z fun a k=>?_
 have m:=St.start w0
 obtain ⟨v9,Ck,Ar,Cl,Au,Cf,rfl,rfl,Ak,Ao,Al⟩:=Bm
 obtain ⟨Bp,Cx,Bd,Da,rfl,rfl,Ae,Ce⟩:=Bz
 unfold d_spec_l15Cheap at h
 refine wr (s_box (cs:=[I r1.fWay,I r1.fPallet.fW,I r1.fPallet.fD,I r1.fPallet.fH,I r1.fPallet.fGram,I r1.fClasses,v9,Ar,I r1.fMaster,Au]) m k z z z z z z fun Ag As a k m e Ca=>s_box (cs:=[Bp,Bd]) m k z z z z z z fun Af Aq a k m e At=>pN 1 k z fun a k=>nn (wp_seq (wr (pN 1 k z fun a k=>nn (wp_block (c_loop (fun n a w=>∃ (Ad:Int),K 39 [(2,.pointer (some (⟨Ag,0,none⟩:Addr))),(3,.pointer (some (⟨Af,0,none⟩:Addr))),(5,I Ad)] a ∧ St [] w0 w [([Ag],As),([Af],Aq)] ∧ d_spec_l15Cheap_L1 fu r1 x5 n Ad = some r) ?_ ?_ fu _ _ ?_))))))
 · rintro a w ⟨_,_,_,h⟩
   exact nS h
 · rintro Ay a Co ⟨Ad,k,m,h⟩
   rw [d_spec_l15Cheap_L1_s] at h
   unfold d_spec_l15Cheap_L1_B at h
   refine wp_seq (wr (pN 1 k z fun a k=>sv k z (r_fa fa58_0 k z z) fun a k=>sv k z (r_ldb t155 m 1 At 0 k z z z z z) fun a k=>sv k z (r_len (α:=Carton) Ae k underlying55 z z) fun a k=>pN 1 k z fun a k=>nn (cI h k z (fun Bs h=>?_) fun Bs h=>?_)))
   · refine wp_skip (nm_then ?_)
     refine c_cut (fun a w=>K 39 [(2,.pointer (some (⟨Ag,0,none⟩:Addr))),(3,.pointer (some (⟨Af,0,none⟩:Addr))),(5,I Ad)] a ∧ St [] w0 w [([Ag],As),([Af],Aq)] ∧ d_spec_l15Cheap_J1 fu (d_spec_l15Cheap_L1 fu r1 x5 Ay) Ad = some r) ?_ ?_
     · rintro a Ch ⟨k,m,h⟩
       unfold d_spec_l15Cheap_J1 at h
       refine wp_region_lit (pN 3 k z fun a k=>nn ?_)
       exact ⟨w64 (Ad + 1),k.keep [2,3,5] z,m.sel [0,1] z (by decide),h⟩
     refine wp_block (c_cut (fun a w=>∃ (Ac:Typ) (Ai:Nat) (Ap:World) (Am:Bool),K 39 [(2,.pointer (some (⟨Ag,0,none⟩:Addr))),(3,.pointer (some (⟨Af,0,none⟩:Addr))),(5,I Ad),(6,.pointer (some (⟨Ai,0,none⟩:Addr))),(7,.bool (Am))] a ∧ St [] w0 w [([Ag],As),([Af],Aq),([Ai],Ap)] ∧ bx Ap Ai [I Ac.fId,I Ac.fW,I Ac.fH,I Ac.fD,I Ac.fTare,I Ac.fGram,I Ac.fCost] 79 ∧ d_spec_l15Cheap_J2 fu (d_spec_l15Cheap_L1 fu r1 x5 Ay) x5 Ad Ac Am = some r) ?_ ?_)
     · rintro a Cj ⟨Ac,Ai,Ap,Am,k,m,Bf,h⟩
       unfold d_spec_l15Cheap_J2 at h
       refine wp_seq (d_go [] mixo m z fun Bu hMd=>?_)
       have m:=hMd
       have s:=Ext.refl ([]:List Nat) Bu
       refine dN [0,1,2] 3 z k (by kernel_rfl) z s (fun _ _ _ _ _=>id) fun a k=>bsplit (!Am) (fun Ah=>?_) (fun Ah=>?_)
       · have h:=bif_t Ah h
         refine rB k 28 z Ah fun k=>dN [3,4,5,6,7,8,9,10,11,12] 10 z k (by kernel_rfl) z s (fun _ _ _ _ _=>id) fun a k=>d_done (by kernel_rfl) ((nm_then ?_))
         refine wp_cond_true (k.ev z) (wr (pN 1 k z fun a k=>nn (wp_ret (rt_block (rt_then (rt_then (rt_block (rt_then ?_))))))))
         refine fS h k m z z
       have h:=bif_f Ah h
       refine rB k 28 z Ah fun k=>dN [7] 1 z k (by kernel_rfl) z s (fun _ _ _ _ _=>id) fun a k=>dt k 3 z (by kernel_rfl) z s (fun _ _ _=>id) (fun w s=>r_fa fa79_0 k z z) fun a k=>dt k 4 z (by kernel_rfl) z s (fun _ _ _=>id) (fun w s=>r_ld1 t13 (r:=[]) (Bf.at ((hMd.step s).a 2 z) 0 1 z z z) k z z) fun a k=>dt k 5 z (by kernel_rfl) z s (fun _ _ _=>id) (fun w s=>r_fa fa58_0 k z z) fun a k=>dt k 6 z (by kernel_rfl) z s (fun _ _ _=>id) (fun w s=>r_ld1 t155 (r:=[]) (At.at ((hMd.step s).a 1 z) 0 1 z z z) k z z) fun a k=>oE h fun Cm Av h=>dt k 8 z (by kernel_rfl) z s (fun _ _ _=>id) (fun w s=>r_ixa Ae Av k ts55 z z z) fun a k=>dt k 9 z (by kernel_rfl) z s (fun _ _ _=>id) (fun w s=>r_fa fa83_0 k z z) fun a k=>?_
       obtain ⟨Cs,Cp,Ci,By,Bg,Bw⟩:=rd_get Ae (ix_some Av).2.2
       obtain ⟨Cr,_,rfl,rfl,Cg⟩:=By
       refine dt k 10 z (by kernel_rfl) z s (fun _ _ _=>id) (fun w s=>r_ld1 t13 ((Bg.agr ((hMd.step s).a00 (Enc.rd_lt Ae)) Bw).fld 0 1 (Nat.le_of_ble_eq_true z)) k z z) fun a k=>dN [11,12] 2 z k (by kernel_rfl) z s (fun _ _ _ _ _=>id) fun a k=>d_done (by kernel_rfl) ((nm_then ?_))
       refine cI h k z (fun Bl h=>?_) fun Bl h=>?_
       · refine wr (pN 1 k z fun a k=>nn (wp_ret (rt_block (rt_then (rt_then (rt_block (rt_then ?_)))))))
         refine fS h k m z z
       refine wp_skip (nm_block (nm_then ?_))
       exact ⟨k.keep [2,3,5] z,m.sel [0,1] z (by decide),h⟩
     refine d_go [] mixo m z fun Bj hMd=>?_
     have m:=hMd
     have s:=Ext.refl ([]:List Nat) Bj
     refine dN [3] 1 z k (by kernel_rfl) z s (fun _ _ _ _ _=>id) fun a k=>dt k 0 z (by kernel_rfl) z s (fun _ _ _=>id) (fun w s=>r_ldA ta38 (Ca.at ((hMd.step s).a 0 z) 0 10 z z z) z k z z) fun a k=>dt k 1 z (by kernel_rfl) z s (fun _ _ _=>id) (fun w s=>r_fa fa58_0 k z z) fun a k=>dt k 2 z (by kernel_rfl) z s (fun _ _ _=>id) (fun w s=>r_ld1 t155 (r:=[]) (At.at ((hMd.step s).a 1 z) 0 1 z z z) k z z) fun a k=>oE h fun Cq Aw h=>dt k 4 z (by kernel_rfl) z s (fun _ _ _=>id) (fun w s=>r_ixa Ae Aw k ts55 z z z) fun a k=>dt k 5 z (by kernel_rfl) z s (fun _ _ _=>id) (fun w s=>r_fa fa83_2 k z z) fun a k=>?_
     obtain ⟨Cu,Cz,Cy,Bh,Bv,Bo⟩:=rd_get Ae (ix_some Aw).2.2
     obtain ⟨Db,_,rfl,rfl,Aj⟩:=Bh
     refine dt k 6 z (by kernel_rfl) z s (fun _ _ _=>id) (fun w s=>r_ld1 t163 ((Bv.agr ((hMd.step s).a00 (Enc.rd_lt Ae)) Bo).fld 2 1 (Nat.le_of_ble_eq_true z)) k z z) fun a k=>d_two 7 11 (by kernel_rfl) z z ?_ ?_ 
     · refine oE h fun Ab Bc h=>cE k m call204 z z z (c_spec_Cheapest fu _ _ (show rd _ _ [I r1.fWay,I r1.fPallet.fW,I r1.fPallet.fD,I r1.fPallet.fH,I r1.fPallet.fGram,I r1.fClasses,v9,Ar,I r1.fMaster,Au] (r1:Request) from ⟨_,_,_,_,_,_,z,z,(Enc.rd_agr Ak (m.a00 (Enc.rd_lt Ak))),(Enc.rd_agr Ao (m.a00 (Enc.rd_lt Ao))),(Enc.rd_agr Al (m.a00 (Enc.rd_lt Al)))⟩) (Enc.rd_agr Aj (m.a00 (Enc.rd_lt Aj))) Bc) fun Cv e a k m=>?_
       have s:=s.trans e (by simp)
       refine wpList_nil ⟨s,?_⟩
       refine dN [8,9,10] 3 z k (by kernel_rfl) z s (fun _ _ _ _ _=>id) fun a k=>d_one 11 (by kernel_rfl) z (s_allocN (cs:=[I 0,I 0,I 0,I 0,I 0,I 0,I 0]) m k zeroValue79 z z z z z fun Cb Ct a k m e Bi Bx=>?_)
       have Bn:=lo1 (Nat.le_trans s.size Bx)
       have s:=s.trans e (by simp)
       refine wpList_nil ⟨s,?_⟩
       refine d_one 12 (by kernel_rfl) z (s_stb (cs':=[I Ab.1.fId,I Ab.1.fW,I Ab.1.fH,I Ab.1.fD,I Ab.1.fTare,I Ab.1.fGram,I Ab.1.fCost]) sizeOf79 m 0 Bi 0 k z z z z z z z z z z z fun Ba a k e m Br=>?_)
       have s:=s.trans e (fun y hy=>Or.inr (Bn y hy))
       refine wpList_nil ⟨s,?_⟩
       refine dN [13] 1 z k (by kernel_rfl) z s (fun _ _ _ _ _=>id) fun a k=>d_done (by kernel_rfl) ((nm_then ?_))
       exact ⟨Ab.1,Cb,Ba,Ab.2,k.keep [2,3,5,6,7] z,m.sel [1,2,0] z (by decide),Br,h⟩
     refine s_allocN (cs:=[I 0,I 0,I 0,I 0,I 0,I 0,I 0]) m k zeroValue79 z z z z z fun Be Cn a k m e Bt Bq=>?_
     have Bk:=lo1 (Nat.le_trans s.size Bq)
     have s:=s.trans e (by simp)
     refine wpList_nil ⟨s,?_⟩
     refine d_one 7 (by kernel_rfl) z (oE h fun Aa Bb h=>cE k m call204 z z z (c_spec_Cheapest fu _ _ (show rd _ _ [I r1.fWay,I r1.fPallet.fW,I r1.fPallet.fD,I r1.fPallet.fH,I r1.fPallet.fGram,I r1.fClasses,v9,Ar,I r1.fMaster,Au] (r1:Request) from ⟨_,_,_,_,_,_,z,z,(Enc.rd_agr Ak (m.a00 (Enc.rd_lt Ak))),(Enc.rd_agr Ao (m.a00 (Enc.rd_lt Ao))),(Enc.rd_agr Al (m.a00 (Enc.rd_lt Al)))⟩) (Enc.rd_agr Aj (m.a00 (Enc.rd_lt Aj))) Bb) fun Cw e a k m=>?_)
     have s:=s.trans e (by simp)
     refine wpList_nil ⟨s,?_⟩
     refine dN [8,9,10] 3 z k (by kernel_rfl) z s (fun _ _ _ _ _=>id) fun a k=>d_one 12 (by kernel_rfl) z (s_stb (cs':=[I Aa.1.fId,I Aa.1.fW,I Aa.1.fH,I Aa.1.fD,I Aa.1.fTare,I Aa.1.fGram,I Aa.1.fCost]) sizeOf79 m 0 Bt 0 k z z z z z z z z z z z fun Cc a k e m Cd=>?_)
     have s:=s.trans e (fun y hy=>Or.inr (Bk y hy))
     refine wpList_nil ⟨s,?_⟩
     refine dN [13] 1 z k (by kernel_rfl) z s (fun _ _ _ _ _=>id) fun a k=>d_done (by kernel_rfl) ((nm_then ?_))
     exact ⟨Aa.1,Be,Cc,Aa.2,k.keep [2,3,5,6,7] z,m.sel [1,2,0] z (by decide),Cd,h⟩
   refine wp_exit (ex_then (ex_then (ex_same (nm_then ?_))))
   refine wr (pN 1 k z fun a k=>nn (wp_ret (fS h k m z z)))
 exact ⟨0,k.keep [2,3,5] z,m.sel [1,0] z (by decide),h⟩
theorem c_spec_Units (fu:Nat) {w0:World} (r1:Request) {Ag:List Value} {F3:List Nat} (Ai:rd w0 F3 Ag r1) {r:(List Int)}
    (h:d_spec_Units fu r1 = some r) :
    Calls Tryz.prog 166 #[.agg Ag.toArray] w0 fun e w=>∃ (v0:Value) (G0:List Nat),e = .returned (v0) ∧ Ext [] w0 w ∧ ow w G0 [v0] r ∧ (∀ b ∈ G0,w0.heap.size ≤ b):=by
 refine enter (vs:=[_]) func166 z ntmps166 z fun a k=>?_
 have m:=St.start w0
 obtain ⟨v5,F6,v7,F8,v9,Av,rfl,rfl,Aa,Ac,Ab⟩:=Ai
 unfold d_spec_Units at h
 refine wr (s_box (cs:=[I r1.fWay,I r1.fPallet.fW,I r1.fPallet.fD,I r1.fPallet.fH,I r1.fPallet.fGram,I r1.fClasses,v5,v7,I r1.fMaster,v9]) m k z z z z z z fun As Ax a k m e Ae=>pN 1 k z fun a k=>nn (wp_seq (wr (sv k z (r_ldB ta38 m 0 Ae 0 k z z z z z z) fun a k=>oE h fun At Ak h=>cE k m call74 z z z (c_spec_Class fu _ (show rd _ _ [I r1.fWay,I r1.fPallet.fW,I r1.fPallet.fD,I r1.fPallet.fH,I r1.fPallet.fGram,I r1.fClasses,v5,v7,I r1.fMaster,v9] (r1:Request) from ⟨_,_,_,_,_,_,z,z,(Enc.rd_agr Aa (m.a00 (Enc.rd_lt Aa))),(Enc.rd_agr Ac (m.a00 (Enc.rd_lt Ac))),(Enc.rd_agr Ab (m.a00 (Enc.rd_lt Ab)))⟩) Ak) fun Ar e a k m=>?_))))
 refine pN 1 k z fun a k=>nn (cI h k z (fun Ao h=>?_) fun Ao h=>?_)
 · refine wr (s_bs (cs:=[]) (ps:=[]) te63 m k z z z z z z z (by decide) z (by exact (List.forall_mem_nil _)) fun Ah Au Aw a k m e Ap=>?_)
   have Al:=ow_bx Ap ([]:List Int) z z z
   refine pN 1 k z fun a k=>nn (wp_ret (rt_then ?_))
   cases h
   exact finR1 k z (RV.tmp k z) ⟨_,[Ah],z,m.ext,(Enc.ow_agr Al (m.a 0 z)),(m.fresh 0 z)⟩
 refine wp_skip (nm_then ?_)
 refine wr (sv k z (r_ldB ta38 m 0 Ae 0 k z z z z z z) fun a k=>oE h fun Ay Am h=>s_call k call90 z z z z z (c_spec_l6Units fu _ (show rd _ _ [I r1.fWay,I r1.fPallet.fW,I r1.fPallet.fD,I r1.fPallet.fH,I r1.fPallet.fGram,I r1.fClasses,v5,v7,I r1.fMaster,v9] (r1:Request) from ⟨_,_,_,_,_,_,z,z,(Enc.rd_agr Aa (m.a00 (Enc.rd_lt Aa))),(Enc.rd_agr Ac (m.a00 (Enc.rd_lt Ac))),(Enc.rd_agr Ab (m.a00 (Enc.rd_lt Ab)))⟩) Am) fun Az Ba hR=>?_)
 obtain ⟨Aq,Af,rfl,e,Ad,Aj⟩:=hR
 refine ⟨_,z,fun a k=>?_⟩
 have m:=m.new e Af (fun b hb=>⟨Aj b hb,Enc.rd_lt (Enc.ow_rd Ad) b hb⟩) (Enc.ow_nd Ad)
 refine pN 1 k z fun a k=>nn (wp_ret ?_)
 cases h
 exact finR1 k z (RV.tmp k z) ⟨_,Af,z,m.ext,(Enc.ow_agr Ad (m.a 0 z)),(m.fresh 0 z)⟩
theorem c_spec_GramOf (fu:Nat) {w0:World} (r1:Request) (Aj:List Int) {Az:List Value} {F3:List Nat} (Be:rd w0 F3 Az r1) {v6:Value} {F7:List Nat} (Aq:rd w0 F7 [v6] Aj) {r:Int}
    (h:d_spec_GramOf fu r1 Aj = some r) :
    Calls Tryz.prog 302 #[.agg Az.toArray,v6] w0 fun e w=>e = .returned (I r) ∧ Ext [] w0 w:=by
 refine enter (vs:=[_,_]) func302 z ntmps302 z fun a k=>?_
 have m:=St.start w0
 obtain ⟨v9,By,Al,Ca,Am,Ce,rfl,rfl,Ag,Ah,Ae⟩:=Be
 unfold d_spec_GramOf at h
 refine wr (s_box (cs:=[I r1.fWay,I r1.fPallet.fW,I r1.fPallet.fD,I r1.fPallet.fH,I r1.fPallet.fGram,I r1.fClasses,v9,Al,I r1.fMaster,Am]) m k z z z z z z fun Ai As a k m e Ax=>pN 1 k z fun a k=>nn (wr (sv k z (r_ldB ta38 m 0 Ax 0 k z z z z z z) fun a k=>oE h fun Au Bp h=>?_)))
 refine s_call k call166 z z z z z (c_spec_Units fu _ (show rd _ _ [I r1.fWay,I r1.fPallet.fW,I r1.fPallet.fD,I r1.fPallet.fH,I r1.fPallet.fGram,I r1.fClasses,v9,Al,I r1.fMaster,Am] (r1:Request) from ⟨_,_,_,_,_,_,z,z,(Enc.rd_agr Ag (m.a00 (Enc.rd_lt Ag))),(Enc.rd_agr Ah (m.a00 (Enc.rd_lt Ah))),(Enc.rd_agr Ae (m.a00 (Enc.rd_lt Ae)))⟩) Bp) fun Cb Av hR=>?_
 obtain ⟨Aw,Ar,rfl,e,Ao,Bs⟩:=hR
 refine ⟨_,z,fun a k=>?_⟩
 have m:=m.new e Ar (fun b hb=>⟨Bs b hb,Enc.rd_lt (Enc.ow_rd Ao) b hb⟩) (Enc.ow_nd Ao)
 refine pN 1 k z fun a k=>nn (wr (pN 1 k z fun a k=>nn (wp_seq (wr (pN 1 k z fun a k=>nn (wp_block (c_loop (fun n a w=>∃ (Af:Int) (Ad:Int),K 33 [(1,v6),(2,.pointer (some (⟨Ai,0,none⟩:Addr))),(5,Aw),(6,I Af),(7,I Ad)] a ∧ St [] w0 w [([Ai],As),(Ar,Av)] ∧ d_spec_GramOf_L1 fu r1 Aj Au n Af Ad = some r) ?_ ?_ fu _ _ ?_)))))))
 · rintro a w ⟨_,_,_,_,h⟩
   exact nS h
 · rintro Ba a Bv ⟨Af,Ad,k,m,h⟩
   rw [d_spec_GramOf_L1_s] at h
   unfold d_spec_GramOf_L1_B at h
   refine wp_seq (wr (pN 2 k z fun a k=>sv k z (r_len (α:=Int) Aq k underlying63 z z) fun a k=>pN 1 k z fun a k=>nn (cI h k z (fun Br h=>?_) fun Br h=>?_)))
   · refine wp_skip (nm_then ?_)
     refine c_cut (fun a w=>∃ (Ak:Int),K 33 [(1,v6),(2,.pointer (some (⟨Ai,0,none⟩:Addr))),(5,Aw),(6,I Ak),(7,I Ad)] a ∧ St [] w0 w [([Ai],As),(Ar,Av)] ∧ d_spec_GramOf_J1 fu (d_spec_GramOf_L1 fu r1 Aj Au Ba) Ad Ak = some r) ?_ ?_
     · rintro a Bw ⟨Ak,k,m,h⟩
       unfold d_spec_GramOf_J1 at h
       refine wp_region_lit (pN 3 k z fun a k=>nn ?_)
       exact ⟨Ak,w64 (Ad + 1),k.keep [1,2,5,6,7] z,m.sel [0,1] z (by decide),h⟩
     refine wp_block (c_cut (fun a w=>∃ (Aa:Item) (Ap:Nat) (At:World),K 33 [(1,v6),(2,.pointer (some (⟨Ai,0,none⟩:Addr))),(5,Aw),(6,I Af),(7,I Ad),(8,.pointer (some (⟨Ap,0,none⟩:Addr)))] a ∧ St [] w0 w [([Ai],As),(Ar,Av),([Ap],At)] ∧ bx At Ap [I Aa.fId,I Aa.fW,I Aa.fH,I Aa.fD,I Aa.fGram,I Aa.fClass,I Aa.fCount] 158 ∧ d_spec_GramOf_J2 fu (d_spec_GramOf_L1 fu r1 Aj Au Ba) Af Ad Aa = some r) ?_ ?_)
     · rintro a Bz ⟨Aa,Ap,At,k,m,Bb,h⟩
       unfold d_spec_GramOf_J2 at h
       refine wp_region_lit (pN 1 k z fun a k=>sv k z (r_fa fa158_4 k z z) fun a k=>sv k z (r_ldb t13 m 2 Bb 4 k z z z z z) fun a k=>pN 2 k z fun a k=>wpList_nil (nm_block (nm_then ?_)))
       exact ⟨w64 (Af + Aa.fGram),k.keep [1,2,5,6,7] z,m.sel [0,1] z (by decide),h⟩
     refine d_go [] mixo m z fun Bo hMd=>?_
     have m:=hMd
     have s:=Ext.refl ([]:List Nat) Bo
     refine dN [1,2,3] 3 z k (by kernel_rfl) z s (fun _ _ _ _ _=>id) fun a k=>dt k 0 z (by kernel_rfl) z s (fun _ _ _=>id) (fun w s=>r_ldA ta38 (Ax.at ((hMd.step s).a 0 z) 0 10 z z z) z k z z) fun a k=>oE h fun Bx Ay h=>dt k 4 z (by kernel_rfl) z s (fun _ _ _=>id) (fun w s=>r_ixa Aq Ay k ts63 z z z) fun a k=>dt k 5 z (by kernel_rfl) z s (fun _ _ _=>id) (fun w s=>r_lde1 Aq ((hMd.step s).a00 (Enc.rd_lt Aq)) Ay 0 t13 k z z z z) fun a k=>d_two 6 10 (by kernel_rfl) z z ?_ ?_ 
     · refine oE h fun Ac Bc h=>cE k m call168 z z z (c_spec_l6Item fu _ _ _ (show rd _ _ [I r1.fWay,I r1.fPallet.fW,I r1.fPallet.fD,I r1.fPallet.fH,I r1.fPallet.fGram,I r1.fClasses,v9,Al,I r1.fMaster,Am] (r1:Request) from ⟨_,_,_,_,_,_,z,z,(Enc.rd_agr Ag (m.a00 (Enc.rd_lt Ag))),(Enc.rd_agr Ah (m.a00 (Enc.rd_lt Ah))),(Enc.rd_agr Ae (m.a00 (Enc.rd_lt Ae)))⟩) (Enc.rd_agr (Enc.ow_rd Ao) (m.a 1 z)) Bc) fun Cg e a k m=>?_
       have s:=s.trans e (by simp)
       refine wpList_nil ⟨s,?_⟩
       refine dN [7,8,9] 3 z k (by kernel_rfl) z s (fun _ _ _ _ _=>id) fun a k=>d_one 10 (by kernel_rfl) z (s_allocN (cs:=[I 0,I 0,I 0,I 0,I 0,I 0,I 0]) m k zeroValue158 z z z z z fun Bm Cd a k m e Bd Bn=>?_)
       have Bu:=lo1 (Nat.le_trans s.size Bn)
       have s:=s.trans e (by simp)
       refine wpList_nil ⟨s,?_⟩
       refine d_one 11 (by kernel_rfl) z (s_stb (cs':=[I Ac.1.fId,I Ac.1.fW,I Ac.1.fH,I Ac.1.fD,I Ac.1.fGram,I Ac.1.fClass,I Ac.1.fCount]) sizeOf158 m 0 Bd 0 k z z z z z z z z z z z fun Bj a k e m Bk=>?_)
       have s:=s.trans e (fun y hy=>Or.inr (Bu y hy))
       refine wpList_nil ⟨s,?_⟩
       refine dN [12] 1 z k (by kernel_rfl) z s (fun _ _ _ _ _=>id) fun a k=>d_done (by kernel_rfl) ((nm_then ?_))
       exact ⟨Ac.1,Bm,Bj,k.keep [1,2,5,6,7,8] z,m.sel [1,2,0] z (by decide),Bk,h⟩
     refine s_allocN (cs:=[I 0,I 0,I 0,I 0,I 0,I 0,I 0]) m k zeroValue158 z z z z z fun Bh Cc a k m e Bg Bf=>?_
     have Bl:=lo1 (Nat.le_trans s.size Bf)
     have s:=s.trans e (by simp)
     refine wpList_nil ⟨s,?_⟩
     refine d_one 6 (by kernel_rfl) z (oE h fun Ab Bq h=>cE k m call168 z z z (c_spec_l6Item fu _ _ _ (show rd _ _ [I r1.fWay,I r1.fPallet.fW,I r1.fPallet.fD,I r1.fPallet.fH,I r1.fPallet.fGram,I r1.fClasses,v9,Al,I r1.fMaster,Am] (r1:Request) from ⟨_,_,_,_,_,_,z,z,(Enc.rd_agr Ag (m.a00 (Enc.rd_lt Ag))),(Enc.rd_agr Ah (m.a00 (Enc.rd_lt Ah))),(Enc.rd_agr Ae (m.a00 (Enc.rd_lt Ae)))⟩) (Enc.rd_agr (Enc.ow_rd Ao) (m.a 2 z)) Bq) fun Cf e a k m=>?_)
     have s:=s.trans e (by simp)
     refine wpList_nil ⟨s,?_⟩
     refine dN [7,8,9] 3 z k (by kernel_rfl) z s (fun _ _ _ _ _=>id) fun a k=>d_one 11 (by kernel_rfl) z (s_stb (cs':=[I Ab.1.fId,I Ab.1.fW,I Ab.1.fH,I Ab.1.fD,I Ab.1.fGram,I Ab.1.fClass,I Ab.1.fCount]) sizeOf158 m 0 Bg 0 k z z z z z z z z z z z fun Bi a k e m Bt=>?_)
     have s:=s.trans e (fun y hy=>Or.inr (Bl y hy))
     refine wpList_nil ⟨s,?_⟩
     refine dN [12] 1 z k (by kernel_rfl) z s (fun _ _ _ _ _=>id) fun a k=>d_done (by kernel_rfl) ((nm_then ?_))
     exact ⟨Ab.1,Bh,Bi,k.keep [1,2,5,6,7,8] z,m.sel [1,2,0] z (by decide),Bt,h⟩
   refine wp_exit (ex_then (ex_then (ex_same (nm_then ?_))))
   refine wr (pN 2 k z fun a k=>nn (wp_ret (fS h k m z z)))
 exact ⟨0,0,k.keep [1,2,5,6,7] z,m.sel [1,0] z (by decide),h⟩
theorem c_spec_Gross (fu:Nat) {w0:World} (r1:Request) (x5:Carton) {Am:List Value} {F3:List Nat} (As:rd w0 F3 Am r1) {Aj:List Value} {F7:List Nat} (Aw:rd w0 F7 Aj x5) {r:Int}
    (h:d_spec_Gross fu r1 x5 = some r) :
    Calls Tryz.prog 269 #[.agg Am.toArray,.agg Aj.toArray] w0 fun e w=>e = .returned (I r) ∧ Ext [] w0 w:=by
 refine enter (vs:=[_,_]) func269 z ntmps269 z fun a k=>?_
 have m:=St.start w0
 obtain ⟨v9,Bh,Af,Bi,Ag,Bl,rfl,rfl,Ac,Ad,Ab⟩:=As
 obtain ⟨Av,_,rfl,rfl,Ak⟩:=Aw
 unfold d_spec_Gross at h
 refine wr (s_box (cs:=[I r1.fWay,I r1.fPallet.fW,I r1.fPallet.fD,I r1.fPallet.fH,I r1.fPallet.fGram,I r1.fClasses,v9,Af,I r1.fMaster,Ag]) m k z z z z z z fun Ao Bc a k m e Ah=>s_box (cs:=[I x5.fType,I x5.fGroup,Av]) m k z z z z z z fun Ai Au a k m e Ap=>pN 1 k z fun a k=>nn (wr (sv k z (r_ldB ta38 m 1 Ah 0 k z z z z z z) fun a k=>sv k z (r_fa fa83_0 k z z) fun a k=>sv k z (r_ldb t13 m 0 Ap 0 k z z z z z) fun a k=>oE h fun Aa Bd h=>?_)))
 refine cE k m call184 z z z (c_spec_TypeById fu _ _ (show rd _ _ [I r1.fWay,I r1.fPallet.fW,I r1.fPallet.fD,I r1.fPallet.fH,I r1.fPallet.fGram,I r1.fClasses,v9,Af,I r1.fMaster,Ag] (r1:Request) from ⟨_,_,_,_,_,_,z,z,(Enc.rd_agr Ac (m.a00 (Enc.rd_lt Ac))),(Enc.rd_agr Ad (m.a00 (Enc.rd_lt Ad))),(Enc.rd_agr Ab (m.a00 (Enc.rd_lt Ab)))⟩) Bd) fun Be e a k m=>pN 3 k z fun a k=>s_alloc (cs:=[I 0,I 0,I 0,I 0,I 0,I 0,I 0]) m k zeroValue79 z z z z z fun Al Bf a k m e Bb=>?_
 refine s_stb (cs':=[I Aa.1.fId,I Aa.1.fW,I Aa.1.fH,I Aa.1.fD,I Aa.1.fTare,I Aa.1.fGram,I Aa.1.fCost]) sizeOf79 m 0 Bb 0 k z z z z z z z z z z z fun Aq a k e m Ba=>pN 1 k z fun a k=>nn (c_cut (fun a w=>K 28 [(2,.pointer (some (⟨Ao,0,none⟩:Addr))),(3,.pointer (some (⟨Ai,0,none⟩:Addr))),(5,.pointer (some (⟨Al,0,none⟩:Addr)))] a ∧ St [] w0 w [([Ao],Bc),([Ai],Au),([Al],Aq)] ∧ d_spec_Gross_J1 fu r1 x5 Aa = some r) ?_ ?_)
 · rintro a Bj ⟨k,m,h⟩
   unfold d_spec_Gross_J1 at h
   refine wp_seq (d_go [] mixo m z fun Az hMd=>?_)
   have m:=hMd
   have s:=Ext.refl ([]:List Nat) Az
   refine dt k 0 z (by kernel_rfl) z s (fun _ _ _=>id) (fun w s=>r_fa fa79_4 k z z) fun a k=>dt k 1 z (by kernel_rfl) z s (fun _ _ _=>id) (fun w s=>r_ld1 t13 (r:=[]) (Ba.at ((hMd.step s).a 2 z) 4 1 z z z) k z z) fun a k=>dt k 2 z (by kernel_rfl) z s (fun _ _ _=>id) (fun w s=>r_ldA ta38 (Ah.at ((hMd.step s).a 0 z) 0 10 z z z) z k z z) fun a k=>dt k 3 z (by kernel_rfl) z s (fun _ _ _=>id) (fun w s=>r_fa fa83_2 k z z) fun a k=>dt k 4 z (by kernel_rfl) z s (fun _ _ _=>id) (fun w s=>r_ld1 t163 (r:=[]) (Ap.at ((hMd.step s).a 1 z) 2 1 z z z) k z z) fun a k=>d_one 5 (by kernel_rfl) z (oE h fun Bk At h=>?_)
   refine cE k m call302 z z z (c_spec_GramOf fu _ _ (show rd _ _ [I r1.fWay,I r1.fPallet.fW,I r1.fPallet.fD,I r1.fPallet.fH,I r1.fPallet.fGram,I r1.fClasses,v9,Af,I r1.fMaster,Ag] (r1:Request) from ⟨_,_,_,_,_,_,z,z,(Enc.rd_agr Ac (m.a00 (Enc.rd_lt Ac))),(Enc.rd_agr Ad (m.a00 (Enc.rd_lt Ad))),(Enc.rd_agr Ab (m.a00 (Enc.rd_lt Ab)))⟩) (Enc.rd_agr Ak (m.a00 (Enc.rd_lt Ak))) At) fun Bm e a k m=>?_
   have s:=s.trans e (by simp)
   refine wpList_nil ⟨s,?_⟩
   refine dN [6,7] 2 z k (by kernel_rfl) z s (fun _ _ _ _ _=>id) fun a k=>d_done (by kernel_rfl) ((nm_then ?_))
   refine wp_ret (fS h k m z z)
 refine wr (sv k z (r_ldB ta38 m 2 Ah 0 k z z z z z z) fun a k=>oE h fun Ax Ay h=>cE k m call74 z z z (c_spec_Class fu _ (show rd _ _ [I r1.fWay,I r1.fPallet.fW,I r1.fPallet.fD,I r1.fPallet.fH,I r1.fPallet.fGram,I r1.fClasses,v9,Af,I r1.fMaster,Ag] (r1:Request) from ⟨_,_,_,_,_,_,z,z,(Enc.rd_agr Ac (m.a00 (Enc.rd_lt Ac))),(Enc.rd_agr Ad (m.a00 (Enc.rd_lt Ad))),(Enc.rd_agr Ab (m.a00 (Enc.rd_lt Ab)))⟩) Ay) fun Bg e a k m=>pN 2 k z fun a k=>bsplit (Ax != 0) (fun Ae=>?_) (fun Ae=>?_))
 · have h:=bif_t Ae h
   refine rB k 17 z Ae fun k=>pN 3 k z fun a k=>nn (wp_cond_true (k.ev z) (wr (pN 1 k z fun a k=>nn (wp_ret (rt_then ?_)))))
   refine fS h k m z z
 have h:=bif_f Ae h
 refine rB k 17 z Ae fun k=>pN 3 k z fun a k=>nn (cI h k z (fun Ar h=>?_) fun Ar h=>?_)
 · refine wr (pN 1 k z fun a k=>nn (wp_ret (rt_then ?_)))
   refine fS h k m z z
 refine wp_skip (nm_then ?_)
 exact ⟨k.keep [2,3,5] z,m.sel [2,1,0] z (by decide),h⟩
theorem c_spec_BoxOf (fu:Nat) {w0:World} (r1:Request) (x5:Carton) {Ar:List Value} {F3:List Nat} (Av:rd w0 F3 Ar r1) {Am:List Value} {F7:List Nat} (Bh:rd w0 F7 Am x5) {r:Box}
    (h:d_spec_BoxOf fu r1 x5 = some r) :
    Calls Tryz.prog 214 #[.agg Ar.toArray,.agg Am.toArray] w0 fun e w=>e = .returned (.agg (Flat.e r).toArray) ∧ Ext [] w0 w:=by
 refine enter (vs:=[_,_]) func214 z ntmps214 z fun a k=>?_
 have m:=St.start w0
 obtain ⟨v9,Bp,Af,Bq,Ag,Bu,rfl,rfl,Ac,Ad,Ab⟩:=Av
 obtain ⟨Ap,_,rfl,rfl,Ao⟩:=Bh
 unfold d_spec_BoxOf at h
 refine wr (s_box (cs:=[I r1.fWay,I r1.fPallet.fW,I r1.fPallet.fD,I r1.fPallet.fH,I r1.fPallet.fGram,I r1.fClasses,v9,Af,I r1.fMaster,Ag]) m k z z z z z z fun Au Bk a k m e Ak=>s_box (cs:=[I x5.fType,I x5.fGroup,Ap]) m k z z z z z z fun Al Bd a k m e At=>s_alloc (cs:=[I 0,I 0,I 0,I 0]) m k zeroValue86 z z z z z fun Ah Ax a k m e Ai=>nn (wr (sv k z (r_ldB ta38 m 2 Ak 0 k z z z z z z) fun a k=>sv k z (r_fa fa83_0 k z z) fun a k=>sv k z (r_ldb t13 m 1 At 0 k z z z z z) fun a k=>oE h fun Aa Ay h=>?_)))
 refine cE k m call184 z z z (c_spec_TypeById fu _ _ (show rd _ _ [I r1.fWay,I r1.fPallet.fW,I r1.fPallet.fD,I r1.fPallet.fH,I r1.fPallet.fGram,I r1.fClasses,v9,Af,I r1.fMaster,Ag] (r1:Request) from ⟨_,_,_,_,_,_,z,z,(Enc.rd_agr Ac (m.a00 (Enc.rd_lt Ac))),(Enc.rd_agr Ad (m.a00 (Enc.rd_lt Ad))),(Enc.rd_agr Ab (m.a00 (Enc.rd_lt Ab)))⟩) Ay) fun Bm e a k m=>pN 3 k z fun a k=>s_alloc (cs:=[I 0,I 0,I 0,I 0,I 0,I 0,I 0]) m k zeroValue79 z z z z z fun Aq Bs a k m e Bi=>?_
 refine s_stb (cs':=[I Aa.1.fId,I Aa.1.fW,I Aa.1.fH,I Aa.1.fD,I Aa.1.fTare,I Aa.1.fGram,I Aa.1.fCost]) sizeOf79 m 0 Bi 0 k z z z z z z z z z z z fun Bg a k e m Aj=>pN 1 k z fun a k=>nn (c_cut (fun a w=>K 32 [(2,.pointer (some (⟨Au,0,none⟩:Addr))),(3,.pointer (some (⟨Al,0,none⟩:Addr))),(4,.pointer (some (⟨Ah,0,none⟩:Addr))),(5,.pointer (some (⟨Aq,0,none⟩:Addr)))] a ∧ St [] w0 w [([Au],Bk),([Al],Bd),([Ah],Ax),([Aq],Bg)] ∧ d_spec_BoxOf_J1 fu r1 x5 Aa = some r) ?_ ?_)
 · rintro a Br ⟨k,m,h⟩
   unfold d_spec_BoxOf_J1 at h
   refine wp_seq (d_go ([Ah]) mixo m z fun Az hMd=>?_)
   have m:=hMd
   have s:=Ext.refl (([Ah]):List Nat) Az
   refine dt k 0 z (by kernel_rfl) z s (fun _ _ _=>id) (fun w s=>r_fa fa79_1 k z z) fun a k=>dt k 1 z (by kernel_rfl) z s (fun _ _ _=>id) (fun w s=>r_ld1 t13 (r:=[]) (Aj.at (hMd.az 3 2 z z z s) 1 1 z z z) k z z) fun a k=>dt k 2 z (by kernel_rfl) z s (fun _ _ _=>id) (fun w s=>r_fa fa79_3 k z z) fun a k=>dt k 3 z (by kernel_rfl) z s (fun _ _ _=>id) (fun w s=>r_ld1 t13 (r:=[]) (Aj.at (hMd.az 3 2 z z z s) 3 1 z z z) k z z) fun a k=>dt k 4 z (by kernel_rfl) z s (fun _ _ _=>id) (fun w s=>r_fa fa79_2 k z z) fun a k=>dt k 5 z (by kernel_rfl) z s (fun _ _ _=>id) (fun w s=>r_ld1 t13 (r:=[]) (Aj.at (hMd.az 3 2 z z z s) 2 1 z z z) k z z) fun a k=>?_
   refine dt k 6 z (by kernel_rfl) z s (fun _ _ _=>id) (fun w s=>r_ldA ta38 (Ak.at (hMd.az 0 2 z z z s) 0 10 z z z) z k z z) fun a k=>dt k 7 z (by kernel_rfl) z s (fun _ _ _=>id) (fun w s=>r_ldA ta83 (At.at (hMd.az 1 2 z z z s) 0 3 z z z) z k z z) fun a k=>d_one 8 (by kernel_rfl) z (oE h fun As Bc h=>?_)
   refine cE k m call269 z z z (c_spec_Gross fu _ _ (show rd _ _ [I r1.fWay,I r1.fPallet.fW,I r1.fPallet.fD,I r1.fPallet.fH,I r1.fPallet.fGram,I r1.fClasses,v9,Af,I r1.fMaster,Ag] (r1:Request) from ⟨_,_,_,_,_,_,z,z,(Enc.rd_agr Ac (m.a00 (Enc.rd_lt Ac))),(Enc.rd_agr Ad (m.a00 (Enc.rd_lt Ad))),(Enc.rd_agr Ab (m.a00 (Enc.rd_lt Ab)))⟩) (show rd _ _ [I x5.fType,I x5.fGroup,Ap] (x5:Carton) from ⟨_,_,z,z,(Enc.rd_agr Ao (m.a00 (Enc.rd_lt Ao)))⟩) Bc) fun Bn e a k m=>?_
   have s:=s.trans e (by simp)
   refine wpList_nil ⟨s,?_⟩
   refine dt k 9 z (by kernel_rfl) z s (fun _ _ _=>id) (fun w s=>r_build bt86 k (cs:=#[I Aa.1.fW,I Aa.1.fD,I Aa.1.fH,I As]) (ps:=[(0,.tmp 23),(1,.tmp 25),(2,.tmp 27),(3,.tmp 30)]) z z (by kernel_rfl)) fun a k=>d_one 10 (by kernel_rfl) z (s_stb (cs':=[I Aa.1.fW,I Aa.1.fD,I Aa.1.fH,I As]) sizeOf86 m 2 Ai 0 k z z z z z z z z z z z fun Bv a k e m Be=>?_)
   have s:=s.trans e (fun y hy=>Or.inl hy)
   refine wpList_nil ⟨s,?_⟩
   refine d_done (by kernel_rfl) ((nm_then ?_))
   refine wp_ret ?_
   cases h
   exact finR1 k z (RV.cA k z ta86 (Be.at (m.a 2 z) 0 4 z z z) z) ⟨z,m.ext⟩
 refine wr (sv k z (r_ldB ta38 m 3 Ak 0 k z z z z z z) fun a k=>oE h fun Bf Aw h=>cE k m call74 z z z (c_spec_Class fu _ (show rd _ _ [I r1.fWay,I r1.fPallet.fW,I r1.fPallet.fD,I r1.fPallet.fH,I r1.fPallet.fGram,I r1.fClasses,v9,Af,I r1.fMaster,Ag] (r1:Request) from ⟨_,_,_,_,_,_,z,z,(Enc.rd_agr Ac (m.a00 (Enc.rd_lt Ac))),(Enc.rd_agr Ad (m.a00 (Enc.rd_lt Ad))),(Enc.rd_agr Ab (m.a00 (Enc.rd_lt Ab)))⟩) Aw) fun Bl e a k m=>pN 2 k z fun a k=>bsplit (Bf != 0) (fun Ae=>?_) (fun Ae=>?_))
 · have h:=bif_t Ae h
   refine rB k 17 z Ae fun k=>pN 3 k z fun a k=>nn (wp_cond_true (k.ev z) (wr (sv k z (r_build bt86 k (cs:=#[I 0,I 0,I 0,I 0]) (ps:=[]) z z (by kernel_rfl)) fun a k=>s_stb (cs':=[I 0,I 0,I 0,I 0]) sizeOf86 m 1 Ai 0 k z z z z z z z z z z z fun Bo a k e m Ba=>nn (wp_ret (rt_then ?_)))))
   cases h
   exact finR1 k z (RV.cA k z ta86 (Ba.at (m.a 1 z) 0 4 z z z) z) ⟨z,m.ext⟩
 have h:=bif_f Ae h
 refine rB k 17 z Ae fun k=>pN 3 k z fun a k=>nn (cI h k z (fun Bb h=>?_) fun Bb h=>?_)
 · refine wr (sv k z (r_build bt86 k (cs:=#[I 0,I 0,I 0,I 0]) (ps:=[]) z z (by kernel_rfl)) fun a k=>s_stb (cs':=[I 0,I 0,I 0,I 0]) sizeOf86 m 1 Ai 0 k z z z z z z z z z z z fun Bt a k e m Bj=>nn (wp_ret (rt_then ?_)))
   cases h
   exact finR1 k z (RV.cA k z ta86 (Bj.at (m.a 1 z) 0 4 z z z) z) ⟨z,m.ext⟩
 refine wp_skip (nm_then ?_)
 exact ⟨k.keep [2,3,4,5] z,m.sel [3,2,1,0] z (by decide),h⟩
theorem c_spec_l12Known (fu:Nat) {w0:World} (b1:Box) (Aa:Spot)  {r:Bool}
    (h:d_spec_l12Known fu b1 Aa = some r) :
    Calls Tryz.prog 268 #[.agg (Flat.e (b1)).toArray,.agg (Flat.e (Aa)).toArray] w0 fun e w=>e = .returned (.bool (r)) ∧ Ext [] w0 w:=by
 refine enter (vs:=[_,_]) func268 z ntmps268 z fun a k=>?_
 have m:=St.start w0
 unfold d_spec_l12Known at h
 refine wr (s_box (cs:=[I b1.fW,I b1.fD,I b1.fH,I b1.fGram]) m k z z z z z z fun b3 w5 a k m e Ag=>s_box (cs:=[I Aa.fPallet,I Aa.fX,I Aa.fY,I Aa.fZ]) m k z z z z z z fun b6 w9 a k m e Ah=>pN 1 k z fun a k=>nn (wr (sv k z (r_fa fa86_0 k z z) fun a k=>sv k z (r_ldb t13 m 1 Ag 0 k z z z z z) fun a k=>oE h fun Ar Ao h=>cE k m call130 z z z (c_spec_l1In fu _ _ _  Ao) fun Ba e a k m=>pN 1 k z fun a k=>bsplit (Ar) (fun Ac=>?_) (fun Ac=>?_))))
 · have h:=bif_t Ac h
   refine rB k 8 z Ac fun k=>sv k z (r_fa fa86_1 k z z) fun a k=>sv k z (r_ldb t13 m 1 Ag 1 k z z z z z) fun a k=>oE h fun Ai Ap h=>cE k m call130 z z z (c_spec_l1In fu _ _ _  Ap) fun Ax e a k m=>pN 2 k z fun a k=>bsplit (Ai) (fun Ab=>?_) (fun Ab=>?_)
   · have h:=bif_t Ab h
     refine rB k 13 z Ab fun k=>sv k z (r_fa fa86_2 k z z) fun a k=>sv k z (r_ldb t13 m 1 Ag 2 k z z z z z) fun a k=>oE h fun Ak Aj h=>cE k m call130 z z z (c_spec_l1In fu _ _ _  Aj) fun Ay e a k m=>pN 2 k z fun a k=>bsplit (Ak) (fun Af=>?_) (fun Af=>?_)
     · have h:=bif_t Af h
       refine rB k 18 z Af fun k=>sv k z (r_fa fa89_1 k z z) fun a k=>sv k z (r_ldb t13 m 0 Ah 1 k z z z z z) fun a k=>oE h fun As Am h=>cE k m call130 z z z (c_spec_l1In fu _ _ _  Am) fun Av e a k m=>pN 2 k z fun a k=>bsplit (As) (fun Ad=>?_) (fun Ad=>?_)
       · have h:=bif_t Ad h
         refine rB k 23 z Ad fun k=>sv k z (r_fa fa89_2 k z z) fun a k=>sv k z (r_ldb t13 m 0 Ah 2 k z z z z z) fun a k=>oE h fun Al Aq h=>cE k m call130 z z z (c_spec_l1In fu _ _ _  Aq) fun Au e a k m=>pN 2 k z fun a k=>bsplit (Al) (fun Ae=>?_) (fun Ae=>?_)
         · have h:=bif_t Ae h
           refine rB k 28 z Ae fun k=>sv k z (r_fa fa89_3 k z z) fun a k=>sv k z (r_ldb t13 m 0 Ah 3 k z z z z z) fun a k=>oE h fun Az At h=>cE k m call130 z z z (c_spec_l1In fu _ _ _  At) fun Aw e a k m=>pN 2 k z fun a k=>?_
           have k:=k.keep [4] z
           refine nn (wp_ret (fS h k m z z))
         have h:=bif_f Ae h
         refine rB k 28 z Ae fun k=>pN 5 k z fun a k=>?_
         have k:=k.keep [4] z
         refine nn (wp_ret (fS h k m z z))
       have h:=bif_f Ad h
       refine rB k 23 z Ad fun k=>pN 10 k z fun a k=>?_
       have k:=k.keep [4] z
       refine nn (wp_ret (fS h k m z z))
     have h:=bif_f Af h
     refine rB k 18 z Af fun k=>pN 15 k z fun a k=>?_
     have k:=k.keep [4] z
     refine nn (wp_ret (fS h k m z z))
   have h:=bif_f Ab h
   refine rB k 13 z Ab fun k=>pN 20 k z fun a k=>?_
   have k:=k.keep [4] z
   refine nn (wp_ret (fS h k m z z))
 have h:=bif_f Ac h
 refine rB k 8 z Ac fun k=>pN 25 k z fun a k=>?_
 have k:=k.keep [4] z
 refine nn (wp_ret (fS h k m z z))
theorem c_spec_Within (fu:Nat) {w0:World} (p1:Pallet) (b2:Box) (Aa:Spot)  {r:Bool}
    (h:d_spec_Within fu p1 b2 Aa = some r) :
    Calls Tryz.prog 213 #[.agg (Flat.e (p1)).toArray,.agg (Flat.e (b2)).toArray,.agg (Flat.e (Aa)).toArray] w0 fun e w=>e = .returned (.bool (r)) ∧ Ext [] w0 w:=by
 refine enter (vs:=[_,_,_]) func213 z ntmps213 z fun a k=>?_
 have m:=St.start w0
 unfold d_spec_Within at h
 refine wr (s_box (cs:=[I p1.fW,I p1.fD,I p1.fH,I p1.fGram]) m k z z z z z z fun b4 w6 a k m e Aj=>s_box (cs:=[I b2.fW,I b2.fD,I b2.fH,I b2.fGram]) m k z z z z z z fun b7 w9 a k m e Ab=>s_box (cs:=[I Aa.fPallet,I Aa.fX,I Aa.fY,I Aa.fZ]) m k z z z z z z fun Ap Am a k m e Ai=>pN 1 k z fun a k=>nn (wr (sv k z (r_ldB ta86 m 1 Ab 0 k z z z z z z) fun a k=>sv k z (r_ldB ta89 m 0 Ai 0 k z z z z z z) fun a k=>oE h fun Al Ak h=>cE k m call268 z z z (c_spec_l12Known fu (b2:Box) (Aa:Spot)  Ak) fun Ao e a k m=>pN 1 k z fun a k=>bsplit (Al) (fun Ah=>?_) (fun Ah=>?_))))
 · have h:=bif_t Ah h
   refine rB k 10 z Ah fun k=>sv k z (r_fa fa86_0 k z z) fun a k=>sv k z (r_ldb t13 m 1 Ab 0 k z z z z z) fun a k=>pN 3 k z fun a k=>bsplit (decide (b2.fW > 0)) (fun Af=>?_) (fun Af=>?_)
   · have h:=bif_t Af h
     refine rB k 15 z Af fun k=>sv k z (r_fa fa86_1 k z z) fun a k=>sv k z (r_ldb t13 m 1 Ab 1 k z z z z z) fun a k=>pN 3 k z fun a k=>bsplit (decide (b2.fD > 0)) (fun Ad=>?_) (fun Ad=>?_)
     · have h:=bif_t Ad h
       refine rB k 20 z Ad fun k=>sv k z (r_fa fa86_2 k z z) fun a k=>sv k z (r_ldb t13 m 1 Ab 2 k z z z z z) fun a k=>pN 3 k z fun a k=>bsplit (decide (b2.fH > 0)) (fun Ac=>?_) (fun Ac=>?_)
       · have h:=bif_t Ac h
         refine rB k 25 z Ac fun k=>sv k z (r_fa fa89_1 k z z) fun a k=>sv k z (r_ldb t13 m 0 Ai 1 k z z z z z) fun a k=>sv k z (r_fa fa86_0 k z z) fun a k=>sv k z (r_ldb t13 m 1 Ab 0 k z z z z z) fun a k=>pN 1 k z fun a k=>sv k z (r_fa fa33_0 k z z) fun a k=>sv k z (r_ldb t13 m 2 Aj 0 k z z z z z) fun a k=>pN 3 k z fun a k=>bsplit (decide ((w64 (Aa.fX + b2.fW)) ≤ p1.fW)) (fun Ae=>?_) (fun Ae=>?_)
         · have h:=bif_t Ae h
           refine rB k 35 z Ae fun k=>sv k z (r_fa fa89_2 k z z) fun a k=>sv k z (r_ldb t13 m 0 Ai 2 k z z z z z) fun a k=>sv k z (r_fa fa86_1 k z z) fun a k=>sv k z (r_ldb t13 m 1 Ab 1 k z z z z z) fun a k=>pN 1 k z fun a k=>sv k z (r_fa fa33_1 k z z) fun a k=>sv k z (r_ldb t13 m 2 Aj 1 k z z z z z) fun a k=>pN 3 k z fun a k=>bsplit (decide ((w64 (Aa.fY + b2.fD)) ≤ p1.fD)) (fun Ag=>?_) (fun Ag=>?_)
           · have h:=bif_t Ag h
             refine rB k 45 z Ag fun k=>sv k z (r_fa fa89_3 k z z) fun a k=>sv k z (r_ldb t13 m 0 Ai 3 k z z z z z) fun a k=>sv k z (r_fa fa86_2 k z z) fun a k=>sv k z (r_ldb t13 m 1 Ab 2 k z z z z z) fun a k=>pN 1 k z fun a k=>sv k z (r_fa fa33_2 k z z) fun a k=>sv k z (r_ldb t13 m 2 Aj 2 k z z z z z) fun a k=>pN 3 k z fun a k=>?_
             have k:=k.keep [6] z
             refine nn (wp_ret (fS h k m z z))
           have h:=bif_f Ag h
           refine rB k 45 z Ag fun k=>pN 10 k z fun a k=>?_
           have k:=k.keep [6] z
           refine nn (wp_ret (fS h k m z z))
         have h:=bif_f Ae h
         refine rB k 35 z Ae fun k=>pN 20 k z fun a k=>?_
         have k:=k.keep [6] z
         refine nn (wp_ret (fS h k m z z))
       have h:=bif_f Ac h
       refine rB k 25 z Ac fun k=>pN 30 k z fun a k=>?_
       have k:=k.keep [6] z
       refine nn (wp_ret (fS h k m z z))
     have h:=bif_f Ad h
     refine rB k 20 z Ad fun k=>pN 35 k z fun a k=>?_
     have k:=k.keep [6] z
     refine nn (wp_ret (fS h k m z z))
   have h:=bif_f Af h
   refine rB k 15 z Af fun k=>pN 40 k z fun a k=>?_
   have k:=k.keep [6] z
   refine nn (wp_ret (fS h k m z z))
 have h:=bif_f Ah h
 refine rB k 10 z Ah fun k=>pN 45 k z fun a k=>?_
 have k:=k.keep [6] z
 refine nn (wp_ret (fS h k m z z))
theorem c_spec_l15Inside (fu:Nat) {w0:World} (r1:Request) (x5:Plan) {Ao:List Value} {F3:List Nat} (Av:rd w0 F3 Ao r1) {Ah:List Value} {F7:List Nat} (Bc:rd w0 F7 Ah x5) {r:Bool}
    (h:d_spec_l15Inside fu r1 x5 = some r) :
    Calls Tryz.prog 110 #[.agg Ao.toArray,.agg Ah.toArray] w0 fun e w=>e = .returned (.bool (r)) ∧ Ext [] w0 w:=by
 refine enter (vs:=[_,_]) func110 z ntmps110 z fun a k=>?_
 have m:=St.start w0
 obtain ⟨v9,Bp,Ag,Br,Ai,Bv,rfl,rfl,Aj,Ar,Af⟩:=Av
 obtain ⟨Ba,Bk,Bg,Bo,rfl,rfl,Aa,Ad⟩:=Bc
 unfold d_spec_l15Inside at h
 refine wr (s_box (cs:=[I r1.fWay,I r1.fPallet.fW,I r1.fPallet.fD,I r1.fPallet.fH,I r1.fPallet.fGram,I r1.fClasses,v9,Ag,I r1.fMaster,Ai]) m k z z z z z z fun As Be a k m e Am=>s_box (cs:=[Ba,Bg]) m k z z z z z z fun Aq Au a k m e Ae=>pN 1 k z fun a k=>nn (wp_seq (wr (pN 1 k z fun a k=>nn (wp_block (c_loop (fun n a w=>∃ (Ab:Int),K 29 [(2,.pointer (some (⟨As,0,none⟩:Addr))),(3,.pointer (some (⟨Aq,0,none⟩:Addr))),(5,I Ab)] a ∧ St [] w0 w [([As],Be),([Aq],Au)] ∧ d_spec_l15Inside_L1 fu r1 x5 n Ab = some r) ?_ ?_ fu _ _ ?_))))))
 · rintro a w ⟨_,_,_,h⟩
   exact nS h
 · rintro Bs a Bn ⟨Ab,k,m,h⟩
   rw [d_spec_l15Inside_L1_s] at h
   unfold d_spec_l15Inside_L1_B at h
   refine wp_seq (wr (pN 1 k z fun a k=>sv k z (r_fa fa58_0 k z z) fun a k=>sv k z (r_ldb t155 m 1 Ae 0 k z z z z z) fun a k=>sv k z (r_len (α:=Carton) Aa k underlying55 z z) fun a k=>pN 1 k z fun a k=>nn (cI h k z (fun Bb h=>?_) fun Bb h=>?_)))
   · refine wp_skip (nm_then ?_)
     refine wp_seq (wp_block (wp_seq (d_go [] mixo m z fun At hMd=>?_)))
     have m:=hMd
     have s:=Ext.refl ([]:List Nat) At
     refine dN [5,11] 2 z k (by kernel_rfl) z s (fun _ _ _ _ _=>id) fun a k=>dt k 0 z (by kernel_rfl) z s (fun _ _ _=>id) (fun w s=>r_fa fa38_1 k z z) fun a k=>dt k 1 z (by kernel_rfl) z s (fun _ _ _=>id) (fun w s=>r_ldA ta33 (Am.at ((hMd.step s).a 0 z) 1 4 z z z) z k z z) fun a k=>dt k 2 z (by kernel_rfl) z s (fun _ _ _=>id) (fun w s=>r_ldA ta38 (Am.at ((hMd.step s).a 0 z) 0 10 z z z) z k z z) fun a k=>dt k 3 z (by kernel_rfl) z s (fun _ _ _=>id) (fun w s=>r_fa fa58_0 k z z) fun a k=>dt k 4 z (by kernel_rfl) z s (fun _ _ _=>id) (fun w s=>r_ld1 t155 (r:=[]) (Ae.at ((hMd.step s).a 1 z) 0 1 z z z) k z z) fun a k=>oE h fun Ac Al h=>?_
     refine dt k 6 z (by kernel_rfl) z s (fun _ _ _=>id) (fun w s=>r_ixa Aa Al k ts55 z z z) fun a k=>?_
     obtain ⟨Bl,Bt,Bw,Aw,Bh,Az⟩:=rd_get Aa (ix_some Al).2.2
     obtain ⟨Bi,_,rfl,rfl,Ak⟩:=Aw
     refine dt k 7 z (by kernel_rfl) z s (fun _ _ _=>id) (fun w s=>r_ldA ta83 (Bh.agr ((hMd.step s).a00 (Enc.rd_lt Aa)) Az) z k z z) fun a k=>dt k 9 z (by kernel_rfl) z s (fun _ _ _=>id) (fun w s=>r_fa fa58_1 k z z) fun a k=>dt k 10 z (by kernel_rfl) z s (fun _ _ _=>id) (fun w s=>r_ld1 t156 (r:=[]) (Ae.at ((hMd.step s).a 1 z) 1 1 z z z) k z z) fun a k=>oE h fun Ay Ap h=>dt k 12 z (by kernel_rfl) z s (fun _ _ _=>id) (fun w s=>r_ixa Ad Ap k ts56 z z z) fun a k=>dt k 13 z (by kernel_rfl) z s (fun _ _ _=>id) (fun w s=>r_lde Ad ((hMd.step s).a00 (Enc.rd_lt Ad)) Ap ta89 k z z) fun a k=>d_one 8 (by kernel_rfl) z (oE h fun Ax Bf h=>?_)
     refine cE k m call214 z z z (c_spec_BoxOf fu _ _ (show rd _ _ [I r1.fWay,I r1.fPallet.fW,I r1.fPallet.fD,I r1.fPallet.fH,I r1.fPallet.fGram,I r1.fClasses,v9,Ag,I r1.fMaster,Ai] (r1:Request) from ⟨_,_,_,_,_,_,z,z,(Enc.rd_agr Aj (m.a00 (Enc.rd_lt Aj))),(Enc.rd_agr Ar (m.a00 (Enc.rd_lt Ar))),(Enc.rd_agr Af (m.a00 (Enc.rd_lt Af)))⟩) (show rd _ _ [I Ac.fType,I Ac.fGroup,Bi] (Ac:Carton) from ⟨_,_,z,z,(Enc.rd_agr Ak (m.a00 (Enc.rd_lt Ak)))⟩) Bf) fun Bu e a k m=>?_
     have s:=s.trans e (by simp)
     refine wpList_nil ⟨s,?_⟩
     refine d_one 14 (by kernel_rfl) z (oE h fun Bm Bj h=>cE k m call213 z z z (c_spec_Within fu (r1.fPallet:Pallet) (Ax:Box) (Ay:Spot)  Bj) fun Bq e a k m=>?_)
     have s:=s.trans e (by simp)
     refine wpList_nil ⟨s,?_⟩
     refine dN [15] 1 z k (by kernel_rfl) z s (fun _ _ _ _ _=>id) fun a k=>d_done (by kernel_rfl) ((nm_then ?_))
     refine cI h k z (fun Bd h=>?_) fun Bd h=>?_
     · refine wr (pN 1 k z fun a k=>nn (wp_ret (rt_block (rt_then (rt_then (rt_block (rt_then ?_)))))))
       refine fS h k m z z
     refine wp_skip (nm_block (nm_then ?_))
     refine wp_region_lit (pN 3 k z fun a k=>nn ?_)
     exact ⟨w64 (Ab + 1),k.keep [2,3,5] z,m.sel [0,1] z (by decide),h⟩
   refine wp_exit (ex_then (ex_then (ex_same (nm_then ?_))))
   refine wr (pN 1 k z fun a k=>nn (wp_ret (fS h k m z z)))
 exact ⟨0,k.keep [2,3,5] z,m.sel [1,0] z (by decide),h⟩
theorem c_spec_l12Cross (fu:Nat) {w0:World} (a1:Int) (Ac:Int) (b3:Int) (Ab:Int)  {r:Bool}
    (h:d_spec_l12Cross fu a1 Ac b3 Ab = some r) :
    Calls Tryz.prog 270 #[I a1,I Ac,I b3,I Ab] w0 fun e w=>e = .returned (.bool (r)) ∧ Ext [] w0 w:=by
 refine enter (vs:=[_,_,_,_]) func270 z ntmps270 z fun a k=>?_
 have m:=St.start w0
 unfold d_spec_l12Cross at h
 refine wr (pN 1 k z fun a k=>nn (wr (pN 6 k z fun a k=>bsplit (decide (a1 < (w64 (b3 + Ab)))) (fun Aa=>?_) (fun Aa=>?_))))
 · have h:=bif_t Aa h
   refine rB k 14 z Aa fun k=>pN 7 k z fun a k=>nn (wp_ret (fS h k m z z))
 have h:=bif_f Aa h
 refine rB k 14 z Aa fun k=>pN 7 k z fun a k=>nn (wp_ret (fS h k m z z))
theorem c_spec_Overlap (fu:Nat) {w0:World} (a1:Box) (Aa:Spot) (b3:Box) (t4:Spot)  {r:Bool}
    (h:d_spec_Overlap fu a1 Aa b3 t4 = some r) :
    Calls Tryz.prog 215 #[.agg (Flat.e (a1)).toArray,.agg (Flat.e (Aa)).toArray,.agg (Flat.e (b3)).toArray,.agg (Flat.e (t4)).toArray] w0 fun e w=>e = .returned (.bool (r)) ∧ Ext [] w0 w:=by
 refine enter (vs:=[_,_,_,_]) func215 z ntmps215 z fun a k=>?_
 have m:=St.start w0
 unfold d_spec_Overlap at h
 refine wr (s_box (cs:=[I a1.fW,I a1.fD,I a1.fH,I a1.fGram]) m k z z z z z z fun b5 w7 a k m e Aj=>s_box (cs:=[I Aa.fPallet,I Aa.fX,I Aa.fY,I Aa.fZ]) m k z z z z z z fun b8 Aw a k m e Af=>s_box (cs:=[I b3.fW,I b3.fD,I b3.fH,I b3.fGram]) m k z z z z z z fun Be Bc a k m e Ai=>s_box (cs:=[I t4.fPallet,I t4.fX,I t4.fY,I t4.fZ]) m k z z z z z z fun Ax Bd a k m e Ad=>pN 1 k z fun a k=>nn (wr (sv k z (r_ldB ta86 m 3 Aj 0 k z z z z z z) fun a k=>sv k z (r_ldB ta89 m 2 Af 0 k z z z z z z) fun a k=>oE h fun Ak Ap h=>?_)))
 refine cE k m call268 z z z (c_spec_l12Known fu (a1:Box) (Aa:Spot)  Ap) fun Au e a k m=>pN 1 k z fun a k=>bsplit (Ak) (fun Ah=>?_) (fun Ah=>?_)
 · have h:=bif_t Ah h
   refine rB k 12 z Ah fun k=>sv k z (r_ldB ta86 m 1 Ai 0 k z z z z z z) fun a k=>sv k z (r_ldB ta89 m 0 Ad 0 k z z z z z z) fun a k=>oE h fun At Ao h=>cE k m call268 z z z (c_spec_l12Known fu (b3:Box) (t4:Spot)  Ao) fun Az e a k m=>pN 2 k z fun a k=>bsplit (At) (fun Ab=>?_) (fun Ab=>?_)
   · have h:=bif_t Ab h
     refine rB k 17 z Ab fun k=>sv k z (r_fa fa89_0 k z z) fun a k=>sv k z (r_ldb t13 m 2 Af 0 k z z z z z) fun a k=>sv k z (r_fa fa89_0 k z z) fun a k=>sv k z (r_ldb t13 m 0 Ad 0 k z z z z z) fun a k=>pN 3 k z fun a k=>bsplit (Aa.fPallet == t4.fPallet) (fun Ac=>?_) (fun Ac=>?_)
     · have h:=bif_t Ac h
       refine rB k 24 z Ac fun k=>sv k z (r_fa fa89_1 k z z) fun a k=>sv k z (r_ldb t13 m 2 Af 1 k z z z z z) fun a k=>sv k z (r_fa fa86_0 k z z) fun a k=>sv k z (r_ldb t13 m 3 Aj 0 k z z z z z) fun a k=>sv k z (r_fa fa89_1 k z z) fun a k=>sv k z (r_ldb t13 m 0 Ad 1 k z z z z z) fun a k=>sv k z (r_fa fa86_0 k z z) fun a k=>sv k z (r_ldb t13 m 1 Ai 0 k z z z z z) fun a k=>oE h fun As Al h=>cE k m call270 z z z (c_spec_l12Cross fu _ _ _ _  Al) fun Ay e a k m=>pN 2 k z fun a k=>bsplit (As) (fun Ag=>?_) (fun Ag=>?_)
       · have h:=bif_t Ag h
         refine rB k 35 z Ag fun k=>sv k z (r_fa fa89_2 k z z) fun a k=>sv k z (r_ldb t13 m 2 Af 2 k z z z z z) fun a k=>sv k z (r_fa fa86_1 k z z) fun a k=>sv k z (r_ldb t13 m 3 Aj 1 k z z z z z) fun a k=>sv k z (r_fa fa89_2 k z z) fun a k=>sv k z (r_ldb t13 m 0 Ad 2 k z z z z z) fun a k=>sv k z (r_fa fa86_1 k z z) fun a k=>sv k z (r_ldb t13 m 1 Ai 1 k z z z z z) fun a k=>oE h fun Am Aq h=>cE k m call270 z z z (c_spec_l12Cross fu _ _ _ _  Aq) fun Bb e a k m=>pN 2 k z fun a k=>bsplit (Am) (fun Ae=>?_) (fun Ae=>?_)
         · have h:=bif_t Ae h
           refine rB k 46 z Ae fun k=>sv k z (r_fa fa89_3 k z z) fun a k=>sv k z (r_ldb t13 m 2 Af 3 k z z z z z) fun a k=>sv k z (r_fa fa86_2 k z z) fun a k=>sv k z (r_ldb t13 m 3 Aj 2 k z z z z z) fun a k=>sv k z (r_fa fa89_3 k z z) fun a k=>sv k z (r_ldb t13 m 0 Ad 3 k z z z z z) fun a k=>sv k z (r_fa fa86_2 k z z) fun a k=>sv k z (r_ldb t13 m 1 Ai 2 k z z z z z) fun a k=>oE h fun Av Ar h=>cE k m call270 z z z (c_spec_l12Cross fu _ _ _ _  Ar) fun Ba e a k m=>pN 2 k z fun a k=>?_
           have k:=k.keep [8] z
           refine nn (wp_ret (fS h k m z z))
         have h:=bif_f Ae h
         refine rB k 46 z Ae fun k=>pN 11 k z fun a k=>?_
         have k:=k.keep [8] z
         refine nn (wp_ret (fS h k m z z))
       have h:=bif_f Ag h
       refine rB k 35 z Ag fun k=>pN 22 k z fun a k=>?_
       have k:=k.keep [8] z
       refine nn (wp_ret (fS h k m z z))
     have h:=bif_f Ac h
     refine rB k 24 z Ac fun k=>pN 33 k z fun a k=>?_
     have k:=k.keep [8] z
     refine nn (wp_ret (fS h k m z z))
   have h:=bif_f Ab h
   refine rB k 17 z Ab fun k=>pN 40 k z fun a k=>?_
   have k:=k.keep [8] z
   refine nn (wp_ret (fS h k m z z))
 have h:=bif_f Ah h
 refine rB k 12 z Ah fun k=>pN 45 k z fun a k=>?_
 have k:=k.keep [8] z
 refine nn (wp_ret (fS h k m z z))
theorem c_spec_l15Apart (fu:Nat) {w0:World} (r1:Request) (x5:Plan) {Aw:List Value} {F3:List Nat} (Bf:rd w0 F3 Aw r1) {Ar:List Value} {F7:List Nat} (Bs:rd w0 F7 Ar x5) {r:Bool}
    (h:d_spec_l15Apart fu r1 x5 = some r) :
    Calls Tryz.prog 111 #[.agg Aw.toArray,.agg Ar.toArray] w0 fun e w=>e = .returned (.bool (r)) ∧ Ext [] w0 w:=by
 refine enter (vs:=[_,_]) func111 z ntmps111 z fun a k=>?_
 have m:=St.start w0
 obtain ⟨v9,Cg,Ak,Ci,Am,Cm,rfl,rfl,Af,Ah,Ae⟩:=Bf
 obtain ⟨Bn,By,Bv,Bz,rfl,rfl,Aa,Ac⟩:=Bs
 unfold d_spec_l15Apart at h
 refine wr (s_box (cs:=[I r1.fWay,I r1.fPallet.fW,I r1.fPallet.fD,I r1.fPallet.fH,I r1.fPallet.fGram,I r1.fClasses,v9,Ak,I r1.fMaster,Am]) m k z z z z z z fun Aj Av a k m e Ax=>s_box (cs:=[Bn,Bv]) m k z z z z z z fun Ag Ap a k m e Ad=>pN 1 k z fun a k=>nn (wp_seq (wr (pN 1 k z fun a k=>nn (wp_block (c_loop (fun n a w=>∃ (Ab:Int),K 44 [(2,.pointer (some (⟨Aj,0,none⟩:Addr))),(3,.pointer (some (⟨Ag,0,none⟩:Addr))),(5,I Ab)] a ∧ St [] w0 w [([Aj],Av),([Ag],Ap)] ∧ d_spec_l15Apart_L2 fu r1 x5 n Ab = some r) ?_ ?_ fu _ _ ?_))))))
 · rintro a w ⟨_,_,_,h⟩
   exact nS h
 · rintro Bc a Ce ⟨Ab,k,m,h⟩
   rw [d_spec_l15Apart_L2_s] at h
   unfold d_spec_l15Apart_L2_B at h
   refine wp_seq (wr (pN 1 k z fun a k=>sv k z (r_fa fa58_0 k z z) fun a k=>sv k z (r_ldb t155 m 1 Ad 0 k z z z z z) fun a k=>sv k z (r_len (α:=Carton) Aa k underlying55 z z) fun a k=>pN 1 k z fun a k=>nn (cI h k z (fun Bw h=>?_) fun Bw h=>?_)))
   · refine wp_skip (nm_then ?_)
     refine wp_seq (wp_block (wr (pN 1 k z fun a k=>nn (wp_block (c_loop (fun n a w=>∃ (Ai:Int),K 44 [(2,.pointer (some (⟨Aj,0,none⟩:Addr))),(3,.pointer (some (⟨Ag,0,none⟩:Addr))),(5,I Ab),(6,I Ai)] a ∧ St [] w0 w [([Aj],Av),([Ag],Ap)] ∧ d_spec_l15Apart_L1 fu (d_spec_l15Apart_L2 fu r1 x5 Bc) r1 x5 Ab n Ai = some r) ?_ ?_ fu _ _ ?_)))))
     · rintro a w ⟨_,_,_,h⟩
       exact nS h
     · rintro Cc a Ca ⟨Ai,k,m,h⟩
       rw [d_spec_l15Apart_L1_s] at h
       unfold d_spec_l15Apart_L1_B at h
       refine wp_seq (wr (pN 3 k z fun a k=>nn (cI h k z (fun Bj h=>?_) fun Bj h=>?_)))
       · refine wp_skip (nm_then ?_)
         refine wp_seq (wp_block (wp_seq (d_go [] mixo m z fun Bu hMd=>?_)))
         have m:=hMd
         have s:=Ext.refl ([]:List Nat) Bu
         refine dN [3,9,15,21] 4 z k (by kernel_rfl) z s (fun _ _ _ _ _=>id) fun a k=>dt k 0 z (by kernel_rfl) z s (fun _ _ _=>id) (fun w s=>r_ldA ta38 (Ax.at ((hMd.step s).a 0 z) 0 10 z z z) z k z z) fun a k=>dt k 1 z (by kernel_rfl) z s (fun _ _ _=>id) (fun w s=>r_fa fa58_0 k z z) fun a k=>dt k 2 z (by kernel_rfl) z s (fun _ _ _=>id) (fun w s=>r_ld1 t155 (r:=[]) (Ad.at ((hMd.step s).a 1 z) 0 1 z z z) k z z) fun a k=>oE h fun Ao Au h=>dt k 4 z (by kernel_rfl) z s (fun _ _ _=>id) (fun w s=>r_ixa Aa Au k ts55 z z z) fun a k=>?_
         obtain ⟨Cj,Cf,Cd,Bb,Bh,Ba⟩:=rd_get Aa (ix_some Au).2.2
         obtain ⟨Bl,_,rfl,rfl,Az⟩:=Bb
         refine dt k 5 z (by kernel_rfl) z s (fun _ _ _=>id) (fun w s=>r_ldA ta83 (Bh.agr ((hMd.step s).a00 (Enc.rd_lt Aa)) Ba) z k z z) fun a k=>dt k 7 z (by kernel_rfl) z s (fun _ _ _=>id) (fun w s=>r_fa fa58_1 k z z) fun a k=>dt k 8 z (by kernel_rfl) z s (fun _ _ _=>id) (fun w s=>r_ld1 t156 (r:=[]) (Ad.at ((hMd.step s).a 1 z) 1 1 z z z) k z z) fun a k=>oE h fun Be At h=>dt k 10 z (by kernel_rfl) z s (fun _ _ _=>id) (fun w s=>r_ixa Ac At k ts56 z z z) fun a k=>dt k 11 z (by kernel_rfl) z s (fun _ _ _=>id) (fun w s=>r_lde Ac ((hMd.step s).a00 (Enc.rd_lt Ac)) At ta89 k z z) fun a k=>dt k 12 z (by kernel_rfl) z s (fun _ _ _=>id) (fun w s=>r_ldA ta38 (Ax.at ((hMd.step s).a 0 z) 0 10 z z z) z k z z) fun a k=>?_
         refine dt k 13 z (by kernel_rfl) z s (fun _ _ _=>id) (fun w s=>r_fa fa58_0 k z z) fun a k=>dt k 14 z (by kernel_rfl) z s (fun _ _ _=>id) (fun w s=>r_ld1 t155 (r:=[]) (Ad.at ((hMd.step s).a 1 z) 0 1 z z z) k z z) fun a k=>oE h fun Al As h=>dt k 16 z (by kernel_rfl) z s (fun _ _ _=>id) (fun w s=>r_ixa Aa As k ts55 z z z) fun a k=>?_
         obtain ⟨Co,Cn,Ch,Bx,Bt,Bd⟩:=rd_get Aa (ix_some As).2.2
         obtain ⟨Bi,_,rfl,rfl,Ay⟩:=Bx
         refine dt k 17 z (by kernel_rfl) z s (fun _ _ _=>id) (fun w s=>r_ldA ta83 (Bt.agr ((hMd.step s).a00 (Enc.rd_lt Aa)) Bd) z k z z) fun a k=>dt k 19 z (by kernel_rfl) z s (fun _ _ _=>id) (fun w s=>r_fa fa58_1 k z z) fun a k=>dt k 20 z (by kernel_rfl) z s (fun _ _ _=>id) (fun w s=>r_ld1 t156 (r:=[]) (Ad.at ((hMd.step s).a 1 z) 1 1 z z z) k z z) fun a k=>oE h fun Bq Aq h=>dt k 22 z (by kernel_rfl) z s (fun _ _ _=>id) (fun w s=>r_ixa Ac Aq k ts56 z z z) fun a k=>dt k 23 z (by kernel_rfl) z s (fun _ _ _=>id) (fun w s=>r_lde Ac ((hMd.step s).a00 (Enc.rd_lt Ac)) Aq ta89 k z z) fun a k=>d_one 6 (by kernel_rfl) z (oE h fun Bk Bp h=>?_)
         refine cE k m call214 z z z (c_spec_BoxOf fu _ _ (show rd _ _ [I r1.fWay,I r1.fPallet.fW,I r1.fPallet.fD,I r1.fPallet.fH,I r1.fPallet.fGram,I r1.fClasses,v9,Ak,I r1.fMaster,Am] (r1:Request) from ⟨_,_,_,_,_,_,z,z,(Enc.rd_agr Af (m.a00 (Enc.rd_lt Af))),(Enc.rd_agr Ah (m.a00 (Enc.rd_lt Ah))),(Enc.rd_agr Ae (m.a00 (Enc.rd_lt Ae)))⟩) (show rd _ _ [I Ao.fType,I Ao.fGroup,Bl] (Ao:Carton) from ⟨_,_,z,z,(Enc.rd_agr Az (m.a00 (Enc.rd_lt Az)))⟩) Bp) fun Cb e a k m=>?_
         have s:=s.trans e (by simp)
         refine wpList_nil ⟨s,?_⟩
         refine d_one 18 (by kernel_rfl) z (oE h fun Bm Bg h=>cE k m call214 z z z (c_spec_BoxOf fu _ _ (show rd _ _ [I r1.fWay,I r1.fPallet.fW,I r1.fPallet.fD,I r1.fPallet.fH,I r1.fPallet.fGram,I r1.fClasses,v9,Ak,I r1.fMaster,Am] (r1:Request) from ⟨_,_,_,_,_,_,z,z,(Enc.rd_agr Af (m.a00 (Enc.rd_lt Af))),(Enc.rd_agr Ah (m.a00 (Enc.rd_lt Ah))),(Enc.rd_agr Ae (m.a00 (Enc.rd_lt Ae)))⟩) (show rd _ _ [I Al.fType,I Al.fGroup,Bi] (Al:Carton) from ⟨_,_,z,z,(Enc.rd_agr Ay (m.a00 (Enc.rd_lt Ay)))⟩) Bg) fun Cp e a k m=>?_)
         have s:=s.trans e (by simp)
         refine wpList_nil ⟨s,?_⟩
         refine d_one 24 (by kernel_rfl) z (oE h fun Cl Bo h=>cE k m call215 z z z (c_spec_Overlap fu (Bk:Box) (Be:Spot) (Bm:Box) (Bq:Spot)  Bo) fun Ck e a k m=>?_)
         have s:=s.trans e (by simp)
         refine wpList_nil ⟨s,?_⟩
         refine d_done (by kernel_rfl) ?_
         have k:=k.keep [2,3,5,6,43] z
         refine (nm_then ?_)
         refine cI h k z (fun Br h=>?_) fun Br h=>?_
         · refine wr (pN 1 k z fun a k=>nn (wp_ret (rt_block (rt_then (rt_then (rt_block (rt_block (rt_then (rt_then (rt_block (rt_then ?_)))))))))))
           refine fS h k m z z
         refine wp_skip (nm_block (nm_then ?_))
         refine wp_region_lit (pN 3 k z fun a k=>nn ?_)
         exact ⟨w64 (Ai + 1),k.keep [2,3,5,6] z,m.sel [0,1] z (by decide),h⟩
       refine wp_exit (ex_then (ex_then (ex_same (nm_block (nm_then ?_)))))
       refine wp_region_lit (pN 3 k z fun a k=>nn ?_)
       exact ⟨w64 (Ab + 1),k.keep [2,3,5] z,m.sel [0,1] z (by decide),h⟩
     exact ⟨0,k.keep [2,3,5,6] z,m.sel [0,1] z (by decide),h⟩
   refine wp_exit (ex_then (ex_then (ex_same (nm_then ?_))))
   refine wr (pN 1 k z fun a k=>nn (wp_ret (fS h k m z z)))
 exact ⟨0,k.keep [2,3,5] z,m.sel [1,0] z (by decide),h⟩
theorem c_spec_l1Max (fu:Nat) {w0:World} (a1:Int) (b2:Int)  {r:Int}
    (h:d_spec_l1Max fu a1 b2 = some r) :
    Calls Tryz.prog 232 #[I a1,I b2] w0 fun e w=>e = .returned (I r) ∧ Ext [] w0 w:=by
 refine enter (vs:=[_,_]) func232 z ntmps232 z fun a k=>?_
 have m:=St.start w0
 unfold d_spec_l1Max at h
 refine wr (pN 1 k z fun a k=>nn (wp_seq (wr (pN 3 k z fun a k=>nn (cI h k z (fun Aa h=>?_) fun Aa h=>?_)))))
 · refine wr (pN 2 k z fun a k=>nn (wp_ret (rt_then ?_)))
   refine fS h k m z z
 refine wp_skip (nm_then ?_)
 refine wr (pN 2 k z fun a k=>nn (wp_ret (fS h k m z z)))
theorem c_spec_Pallets (fu:Nat) {w0:World} (Ae:List Spot) {v2:Value} {F3:List Nat} (Aa:rd w0 F3 [v2] Ae) {r:Int}
    (h:d_spec_Pallets fu Ae = some r) :
    Calls Tryz.prog 138 #[v2] w0 fun e w=>e = .returned (I r) ∧ Ext [] w0 w:=by
 refine enter (vs:=[_]) func138 z ntmps138 z fun a k=>?_
 have m:=St.start w0
 unfold d_spec_Pallets at h
 refine wr (pN 1 k z fun a k=>nn (wr (pN 1 k z fun a k=>nn (wp_seq (wr (pN 1 k z fun a k=>nn (wp_block (c_loop (fun n a w=>∃ (Ad:Int) (Ab:Int),K 26 [(0,v2),(3,I Ad),(4,I Ab)] a ∧ St [] w0 w [] ∧ d_spec_Pallets_L1 fu Ae n Ad Ab = some r) ?_ ?_ fu _ _ ?_))))))))
 · rintro a w ⟨_,_,_,_,h⟩
   exact nS h
 · rintro Ak a Au ⟨Ad,Ab,k,m,h⟩
   rw [d_spec_Pallets_L1_s] at h
   unfold d_spec_Pallets_L1_B at h
   refine wp_seq (wr (pN 2 k z fun a k=>sv k z (r_len (α:=Spot) Aa k underlying56 z z) fun a k=>pN 1 k z fun a k=>nn (cI h k z (fun Ah h=>?_) fun Ah h=>?_)))
   · refine wp_skip (nm_then ?_)
     refine c_cut (fun a w=>∃ (Ac:Int),K 26 [(0,v2),(3,I Ac),(4,I Ab)] a ∧ St [] w0 w [] ∧ d_spec_Pallets_J1 fu (d_spec_Pallets_L1 fu Ae Ak) Ab Ac = some r) ?_ ?_
     · rintro a Am ⟨Ac,k,m,h⟩
       unfold d_spec_Pallets_J1 at h
       refine wp_region_lit (pN 3 k z fun a k=>nn ?_)
       exact ⟨Ac,w64 (Ab + 1),k.keep [0,3,4] z,m.sel [] z (by decide),h⟩
     refine wp_block (wr (pN 2 k z fun a k=>oE h fun Aq Af h=>sv k z (r_ixa Aa Af k ts56 z z z) fun a k=>sv k z (r_fa fa89_0 k z z) fun a k=>sv k z (r_lde1 Aa (m.a00 (Enc.rd_lt Aa)) Af 0 t13 k z z z z) fun a k=>oE h fun Ao Ai h=>cE k m call130 z z z (c_spec_l1In fu _ _ _  Ai) fun Ar e a k m=>nn (cI h k z (fun Al h=>?_) fun Al h=>?_)))
     · refine wp_region_lit (pN 3 k z fun a k=>oE h fun Ap At h=>sv k z (r_ixa Aa Af k ts56 z z z) fun a k=>sv k z (r_fa fa89_0 k z z) fun a k=>sv k z (r_lde1 Aa (m.a00 (Enc.rd_lt Aa)) Af 0 t13 k z z z z) fun a k=>pN 1 k z fun a k=>oE h fun Ag Aj h=>cE k m call232 z z z (c_spec_l1Max fu _ _  Aj) fun As e a k m=>pN 1 k z fun a k=>wpList_nil (nm_block (nm_then ?_)))
       exact ⟨Ag,k.keep [0,3,4] z,m.sel [] z (by decide),h⟩
     refine wp_skip (nm_block (nm_then ?_))
     exact ⟨Ad,k.keep [0,3,4] z,m.sel [] z (by decide),h⟩
   refine wp_exit (ex_then (ex_then (ex_same (nm_then ?_))))
   refine wr (pN 2 k z fun a k=>nn (wp_ret (fS h k m z z)))
 exact ⟨0,0,k.keep [0,3,4] z,m.sel [] z (by decide),h⟩
theorem c_spec_OnPallet (fu:Nat) {w0:World} (x1:Plan) (Ab:Int) {At:List Value} {F3:List Nat} (Az:rd w0 F3 At x1) {r:(List Int)}
    (h:d_spec_OnPallet fu x1 Ab = some r) :
    Calls Tryz.prog 216 #[.agg At.toArray,I Ab] w0 fun e w=>∃ (v0:Value) (G0:List Nat),e = .returned (v0) ∧ Ext [] w0 w ∧ ow w G0 [v0] r ∧ (∀ b ∈ G0,w0.heap.size ≤ b):=by
 refine enter (vs:=[_,_]) func216 z ntmps216 z fun a k=>?_
 have m:=St.start w0
 obtain ⟨v6,F7,v8,F9,rfl,rfl,Au,Aj⟩:=Az
 unfold d_spec_OnPallet at h
 refine wr (s_box (cs:=[v6,v8]) m k z z z z z z fun Ad Aq a k m e Al=>pN 1 k z fun a k=>nn (wr (s_bs (cs:=[]) (ps:=[]) te63 m k z z z z z z z (by decide) z (by exact (List.forall_mem_nil _)) fun As Bi Bm a k m e Be=>?_)))
 have Bd:=ow_bx Be ([]:List Int) z z z
 refine pN 1 k z fun a k=>nn (wp_seq (wr (pN 1 k z fun a k=>nn (wp_block (c_loop (fun n a w=>∃ (Ah:List Int) (Ae:Value) (Ac:List Nat) (Ag:World) (Aa:Int),K 37 [(1,I Ab),(2,.pointer (some (⟨Ad,0,none⟩:Addr))),(5,Ae),(6,I Aa)] a ∧ St [] w0 w [([Ad],Aq),(Ac,Ag)] ∧ ow Ag Ac [Ae] Ah ∧ d_spec_OnPallet_L1 fu x1 Ab n Ah Aa = some r) ?_ ?_ fu _ _ ?_)))))
 · rintro a w ⟨_,_,_,_,_,_,_,_,h⟩
   exact nS h
 · rintro Av a Bn ⟨Ah,Ae,Ac,Ag,Aa,k,m,Ao,h⟩
   rw [d_spec_OnPallet_L1_s] at h
   unfold d_spec_OnPallet_L1_B at h
   refine c_cut (fun a w=>K 37 [(1,I Ab),(2,.pointer (some (⟨Ad,0,none⟩:Addr))),(5,Ae),(6,I Aa)] a ∧ St [] w0 w [([Ad],Aq),(Ac,Ag)] ∧ d_spec_OnPallet_J2 fu (d_spec_OnPallet_L1 fu x1 Ab Av) x1 Ab Ah Aa = some r) ?_ ?_
   · rintro a Bp ⟨k,m,h⟩
     unfold d_spec_OnPallet_J2 at h
     refine c_cut (fun a w=>∃ (Am:List Int) (Ai:Value) (Ak:List Nat) (Ap:World),K 37 [(1,I Ab),(2,.pointer (some (⟨Ad,0,none⟩:Addr))),(5,Ai),(6,I Aa)] a ∧ St [] w0 w [([Ad],Aq),(Ak,Ap)] ∧ ow Ap Ak [Ai] Am ∧ d_spec_OnPallet_J1 fu (d_spec_OnPallet_L1 fu x1 Ab Av) Aa Am = some r) ?_ ?_
     · rintro a Bq ⟨Am,Ai,Ak,Ap,k,m,Bf,h⟩
       unfold d_spec_OnPallet_J1 at h
       refine wp_region_lit (pN 3 k z fun a k=>nn ?_)
       exact ⟨Am,Ai,Ak,Ap,w64 (Aa + 1),k.keep [1,2,5,6] z,m.sel [0,1] z (by decide),Bf,h⟩
     refine wp_block (wr (sv k z (r_fa fa58_1 k z z) fun a k=>sv k z (r_ldb t156 m 0 Al 1 k z z z z z) fun a k=>pN 1 k z fun a k=>oE h fun Bo Ar h=>sv k z (r_ixa Aj Ar k ts56 z z z) fun a k=>sv k z (r_fa fa89_0 k z z) fun a k=>sv k z (r_lde1 Aj (m.a00 (Enc.rd_lt Aj)) Ar 0 t13 k z z z z) fun a k=>pN 2 k z fun a k=>nn (cI h k z (fun Bg h=>?_) fun Bg h=>?_)))
     · refine wp_region_lit (pN 2 k z fun a k=>s_bs (cs:=[I Aa]) (ps:=[(0,.tmp 33)]) te63 m k z z z z z z z (by decide) z (by exact (List.forall_mem_cons.2 ⟨z,(List.forall_mem_nil _)⟩)) fun Br Bl Bs a k m e Bc=>?_)
       have Bj:=ow_bx Bc ([Aa]:List Int) z z z
       refine oE h fun Bh Bk h=>s_appF Bk te63 z m 2 Ao (News.rd (Enc.rd_agr (Enc.ow_rd Bj) (m.a 0 z))) z z k z z z z z z z fun Aw Ax Bb a k e m Ay=>pN 1 k z fun a k=>wpList_nil (nm_block (nm_then ?_))
       exact ⟨Bh,Aw,Ax,Bb,k.keep [1,2,5,6] z,m.sel [1,2] z (by decide),Ay,h⟩
     refine wp_skip (nm_block (nm_then ?_))
     exact ⟨Ah,Ae,Ac,Ag,k.keep [1,2,5,6] z,m.sel [0,1] z (by decide),Ao,h⟩
   refine wr (pN 1 k z fun a k=>sv k z (r_fa fa58_0 k z z) fun a k=>sv k z (r_ldb t155 m 0 Al 0 k z z z z z) fun a k=>sv k z (r_len (α:=Carton) Au k underlying55 z z) fun a k=>pN 2 k z fun a k=>bsplit (decide (Aa < ((x1.fCartons.length:Int)))) (fun Af=>?_) (fun Af=>?_))
   · have h:=bif_t Af h
     refine rB k 13 z Af fun k=>sv k z (r_fa fa58_0 k z z) fun a k=>sv k z (r_ldb t155 m 0 Al 0 k z z z z z) fun a k=>sv k z (r_len (α:=Carton) Au k underlying55 z z) fun a k=>sv k z (r_fa fa58_1 k z z) fun a k=>sv k z (r_ldb t156 m 0 Al 1 k z z z z z) fun a k=>sv k z (r_len (α:=Spot) Aj k underlying56 z z) fun a k=>pN 2 k z fun a k=>nn (cI h k z (fun Ba h=>?_) fun Ba h=>?_)
     · refine wp_skip (nm_then ?_)
       exact ⟨k.keep [1,2,5,6] z,m.sel [0,1] z (by decide),h⟩
     refine wp_exit (ex_then (ex_then (ex_same (nm_then ?_))))
     refine wr (pN 2 k z fun a k=>nn (wp_ret ?_))
     cases h
     exact finR1 k z (RV.tmp k z) ⟨_,Ac,z,m.ext,(Enc.ow_agr Ao (m.a 1 z)),(m.fresh 1 z)⟩
   have h:=bif_f Af h
   refine rB k 13 z Af fun k=>pN 8 k z fun a k=>nn (wp_cond_false (k.ev z) (wp_exit (ex_then (ex_then (ex_same (nm_then ?_))))))
   refine wr (pN 2 k z fun a k=>nn (wp_ret ?_))
   cases h
   exact finR1 k z (RV.tmp k z) ⟨_,Ac,z,m.ext,(Enc.ow_agr Ao (m.a 1 z)),(m.fresh 1 z)⟩
 exact ⟨([]:List Int),(.slice (some ⟨As,0,none⟩) 0 0),[As],Bi,0,k.keep [1,2,5,6] z,m.sel [1,0] z (by decide),Bd,h⟩
theorem c_spec_PalletGram (fu:Nat) {w0:World} (r1:Request) (x5:Plan) (Aj:Int) {Ar:List Value} {F3:List Nat} (Be:rd w0 F3 Ar r1) {Ah:List Value} {F7:List Nat} (Bp:rd w0 F7 Ah x5) {r:Int}
    (h:d_spec_PalletGram fu r1 x5 Aj = some r) :
    Calls Tryz.prog 217 #[.agg Ar.toArray,.agg Ah.toArray,I Aj] w0 fun e w=>e = .returned (I r) ∧ Ext [] w0 w:=by
 refine enter (vs:=[_,_,_]) func217 z ntmps217 z fun a k=>?_
 have m:=St.start w0
 obtain ⟨At,Bv,Aq,Cb,Aw,Cc,rfl,rfl,Ax,Ag,Ay⟩:=Be
 obtain ⟨As,Br,Av,Bt,rfl,rfl,Aa,Al⟩:=Bp
 unfold d_spec_PalletGram at h
 refine wr (s_box (cs:=[I r1.fWay,I r1.fPallet.fW,I r1.fPallet.fD,I r1.fPallet.fH,I r1.fPallet.fGram,I r1.fClasses,At,Aq,I r1.fMaster,Aw]) m k z z z z z z fun Ak Bg a k m e Az=>s_box (cs:=[As,Av]) m k z z z z z z fun Ai Bj a k m e Ap=>pN 1 k z fun a k=>nn (wr (pN 1 k z fun a k=>nn (wr (sv k z (r_ldB ta58 m 0 Ap 0 k z z z z z z) fun a k=>pN 1 k z fun a k=>oE h fun Bh Bc h=>s_call k call216 z z z z z (c_spec_OnPallet fu _ _ (show rd _ _ [As,Av] (x5:Plan) from ⟨_,_,_,_,z,z,(Enc.rd_agr Aa (m.a00 (Enc.rd_lt Aa))),(Enc.rd_agr Al (m.a00 (Enc.rd_lt Al)))⟩) Bc) fun Bw Bo hR=>?_)))))
 obtain ⟨Bm,Ao,rfl,e,Ab,Bf⟩:=hR
 refine ⟨_,z,fun a k=>?_⟩
 have m:=m.new e Ao (fun b hb=>⟨Bf b hb,Enc.rd_lt (Enc.ow_rd Ab) b hb⟩) (Enc.ow_nd Ab)
 refine pN 1 k z fun a k=>nn (wp_seq (wr (pN 1 k z fun a k=>nn (wp_block (c_loop (fun n a w=>∃ (Ac:Int) (Ad:Int),K 32 [(3,.pointer (some (⟨Ak,0,none⟩:Addr))),(4,.pointer (some (⟨Ai,0,none⟩:Addr))),(7,I Ac),(8,Bm),(9,I Ad)] a ∧ St [] w0 w [([Ak],Bg),([Ai],Bj),(Ao,Bo)] ∧ d_spec_PalletGram_L1 fu r1 x5 Bh n Ac Ad = some r) ?_ ?_ fu _ _ ?_)))))
 · rintro a w ⟨_,_,_,_,h⟩
   exact nS h
 · rintro Bz a Bx ⟨Ac,Ad,k,m,h⟩
   rw [d_spec_PalletGram_L1_s] at h
   unfold d_spec_PalletGram_L1_B at h
   refine wp_seq (wr (pN 2 k z fun a k=>sv k z (r_len (α:=Int) (Enc.ow_rd Ab) k underlying63 z z) fun a k=>pN 1 k z fun a k=>nn (cI h k z (fun Bk h=>?_) fun Bk h=>?_)))
   · refine wp_skip (nm_then ?_)
     refine wp_seq (wp_block (d_go [] mixo m z fun Bd hMd=>?_))
     have m:=hMd
     have s:=Ext.refl ([]:List Nat) Bd
     refine dN [0,4,5] 3 z k (by kernel_rfl) z s (fun _ _ _ _ _=>id) fun a k=>dt k 1 z (by kernel_rfl) z s (fun _ _ _=>id) (fun w s=>r_ldA ta38 (Az.at ((hMd.step s).a 0 z) 0 10 z z z) z k z z) fun a k=>dt k 2 z (by kernel_rfl) z s (fun _ _ _=>id) (fun w s=>r_fa fa58_0 k z z) fun a k=>dt k 3 z (by kernel_rfl) z s (fun _ _ _=>id) (fun w s=>r_ld1 t155 (r:=[]) (Ap.at ((hMd.step s).a 1 z) 0 1 z z z) k z z) fun a k=>oE h fun Bu Au h=>dt k 6 z (by kernel_rfl) z s (fun _ _ _=>id) (fun w s=>r_ixa (Enc.ow_rd Ab) Au k ts63 z z z) fun a k=>dt k 7 z (by kernel_rfl) z s (fun _ _ _=>id) (fun w s=>r_lde1 (Enc.ow_rd Ab) ((hMd.step s).a 2 z) Au 0 t13 k z z z z) fun a k=>oE h fun Ae Af h=>?_
     refine dt k 8 z (by kernel_rfl) z s (fun _ _ _=>id) (fun w s=>r_ixa Aa Af k ts55 z z z) fun a k=>?_
     obtain ⟨Ca,Bs,By,Bi,Bq,Bb⟩:=rd_get Aa (ix_some Af).2.2
     obtain ⟨Bn,_,rfl,rfl,Am⟩:=Bi
     refine dt k 9 z (by kernel_rfl) z s (fun _ _ _=>id) (fun w s=>r_ldA ta83 (Bq.agr ((hMd.step s).a00 (Enc.rd_lt Aa)) Bb) z k z z) fun a k=>d_one 10 (by kernel_rfl) z (oE h fun Bl Ba h=>cE k m call269 z z z (c_spec_Gross fu _ _ (show rd _ _ [I r1.fWay,I r1.fPallet.fW,I r1.fPallet.fD,I r1.fPallet.fH,I r1.fPallet.fGram,I r1.fClasses,At,Aq,I r1.fMaster,Aw] (r1:Request) from ⟨_,_,_,_,_,_,z,z,(Enc.rd_agr Ax (m.a00 (Enc.rd_lt Ax))),(Enc.rd_agr Ag (m.a00 (Enc.rd_lt Ag))),(Enc.rd_agr Ay (m.a00 (Enc.rd_lt Ay)))⟩) (show rd _ _ [I Ae.fType,I Ae.fGroup,Bn] (Ae:Carton) from ⟨_,_,z,z,(Enc.rd_agr Am (m.a00 (Enc.rd_lt Am)))⟩) Ba) fun Cd e a k m=>?_)
     have s:=s.trans e (by simp)
     refine wpList_nil ⟨s,?_⟩
     refine dN [11,12] 2 z k (by kernel_rfl) z s (fun _ _ _ _ _=>id) fun a k=>d_done (by kernel_rfl) ((nm_block (nm_then ?_)))
     refine wp_region_lit (pN 3 k z fun a k=>nn ?_)
     exact ⟨w64 (Ac + Bl),w64 (Ad + 1),k.keep [3,4,7,8,9] z,m.sel [0,1,2] z (by decide),h⟩
   refine wp_exit (ex_then (ex_then (ex_same (nm_then ?_))))
   refine wr (pN 2 k z fun a k=>nn (wp_ret (fS h k m z z)))
 exact ⟨0,0,k.keep [3,4,7,8,9] z,m.sel [2,1,0] z (by decide),h⟩
theorem c_spec_l15Pallets (fu:Nat) {w0:World} (r1:Request) (x5:Plan) {Av:List Value} {F3:List Nat} (Bp:rd w0 F3 Av r1) {Ba:List Value} {F7:List Nat} (Bv:rd w0 F7 Ba x5) {r:Bool}
    (h:d_spec_l15Pallets fu r1 x5 = some r) :
    Calls Tryz.prog 112 #[.agg Av.toArray,.agg Ba.toArray] w0 fun e w=>e = .returned (.bool (r)) ∧ Ext [] w0 w:=by
 refine enter (vs:=[_,_]) func112 z ntmps112 z fun a k=>?_
 have m:=St.start w0
 obtain ⟨v9,Cl,At,Cm,Bc,Cf,rfl,rfl,Ay,Bf,Az⟩:=Bp
 obtain ⟨Aq,Cu,Am,Cv,rfl,rfl,Ab,Ag⟩:=Bv
 unfold d_spec_l15Pallets at h
 refine wr (s_box (cs:=[I r1.fWay,I r1.fPallet.fW,I r1.fPallet.fD,I r1.fPallet.fH,I r1.fPallet.fGram,I r1.fClasses,v9,At,I r1.fMaster,Bc]) m k z z z z z z fun Ae Ak a k m e Be=>s_box (cs:=[Aq,Am]) m k z z z z z z fun Ad Aj a k m e Ah=>pN 1 k z fun a k=>nn (wr (sv k z (r_fa fa58_1 k z z) fun a k=>sv k z (r_ldb t156 m 0 Ah 1 k z z z z z) fun a k=>oE h fun Af Bn h=>cE k m call138 z z z (c_spec_Pallets fu _ (Enc.rd_agr Ag (m.a00 (Enc.rd_lt Ag))) Bn) fun Cg e a k m=>pN 1 k z fun a k=>nn (wp_seq (wr (pN 1 k z fun a k=>nn (wp_block ?_)))))))
 refine c_loop (fun n a w=>∃ (Aa:Int),K 57 [(2,.pointer (some (⟨Ae,0,none⟩:Addr))),(3,.pointer (some (⟨Ad,0,none⟩:Addr))),(5,I Af),(6,I Aa)] a ∧ St [] w0 w [([Ae],Ak),([Ad],Aj)] ∧ d_spec_l15Pallets_L2 fu r1 x5 Af n Aa = some r) ?_ ?_ fu _ _ ?_
 · rintro a w ⟨_,_,_,h⟩
   exact nS h
 · rintro Ao a Cd ⟨Aa,k,m,h⟩
   rw [d_spec_l15Pallets_L2_s] at h
   unfold d_spec_l15Pallets_L2_B at h
   refine wp_seq (wr (pN 3 k z fun a k=>nn (cI h k z (fun Bq h=>?_) fun Bq h=>?_)))
   · refine wp_skip (nm_then ?_)
     refine c_cut (fun a w=>K 57 [(2,.pointer (some (⟨Ae,0,none⟩:Addr))),(3,.pointer (some (⟨Ad,0,none⟩:Addr))),(5,I Af),(6,I Aa)] a ∧ St [] w0 w [([Ae],Ak),([Ad],Aj)] ∧ d_spec_l15Pallets_J1 fu (d_spec_l15Pallets_L2 fu r1 x5 Af Ao) Aa = some r) ?_ ?_
     · rintro a Co ⟨k,m,h⟩
       unfold d_spec_l15Pallets_J1 at h
       refine wp_region_lit (pN 3 k z fun a k=>nn ?_)
       exact ⟨w64 (Aa + 1),k.keep [2,3,5,6] z,m.sel [0,1] z (by decide),h⟩
     refine wp_block (wr (sv k z (r_ldB ta58 m 1 Ah 0 k z z z z z z) fun a k=>pN 1 k z fun a k=>oE h fun Ap Bw h=>s_call k call216 z z z z z (c_spec_OnPallet fu _ _ (show rd _ _ [Aq,Am] (x5:Plan) from ⟨_,_,_,_,z,z,(Enc.rd_agr Ab (m.a00 (Enc.rd_lt Ab))),(Enc.rd_agr Ag (m.a00 (Enc.rd_lt Ag)))⟩) Bw) fun Ck Aw hR=>?_))
     obtain ⟨Bb,Ar,rfl,e,Ac,Bt⟩:=hR
     refine ⟨_,z,fun a k=>?_⟩
     have m:=m.new e Ar (fun b hb=>⟨Bt b hb,Enc.rd_lt (Enc.ow_rd Ac) b hb⟩) (Enc.ow_nd Ac)
     refine pN 1 k z fun a k=>nn (c_cut (fun a w=>K 57 [(2,.pointer (some (⟨Ae,0,none⟩:Addr))),(3,.pointer (some (⟨Ad,0,none⟩:Addr))),(5,I Af),(6,I Aa),(7,Bb)] a ∧ St [] w0 w [([Ae],Ak),([Ad],Aj),(Ar,Aw)] ∧ d_spec_l15Pallets_J2 fu (d_spec_l15Pallets_L2 fu r1 x5 Af Ao) x5 Aa Ap = some r) ?_ ?_)
     · rintro a Ce ⟨k,m,h⟩
       unfold d_spec_l15Pallets_J2 at h
       refine wr (pN 1 k z fun a k=>nn (wp_block (c_loop (fun n a w=>∃ (Al:Int),K 57 [(2,.pointer (some (⟨Ae,0,none⟩:Addr))),(3,.pointer (some (⟨Ad,0,none⟩:Addr))),(5,I Af),(6,I Aa),(7,Bb),(8,I Al)] a ∧ St [] w0 w [([Ae],Ak),([Ad],Aj),(Ar,Aw)] ∧ d_spec_l15Pallets_L1 fu (d_spec_l15Pallets_L2 fu r1 x5 Af Ao) x5 Aa Ap n Al = some r) ?_ ?_ fu _ _ ?_)))
       · rintro a w ⟨_,_,_,h⟩
         exact nS h
       · rintro Cn a Cq ⟨Al,k,m,h⟩
         rw [d_spec_l15Pallets_L1_s] at h
         unfold d_spec_l15Pallets_L1_B at h
         refine wp_seq (wr (pN 2 k z fun a k=>sv k z (r_len (α:=Int) (Enc.ow_rd Ac) k underlying63 z z) fun a k=>pN 1 k z fun a k=>nn (cI h k z (fun Bx h=>?_) fun Bx h=>?_)))
         · refine wp_skip (nm_then ?_)
           refine wp_seq (wp_block (wp_seq (d_go [] mixo m z fun Bl hMd=>?_)))
           have m:=hMd
           have s:=Ext.refl ([]:List Nat) Bl
           refine dN [2,3,11] 3 z k (by kernel_rfl) z s (fun _ _ _ _ _=>id) fun a k=>dt k 0 z (by kernel_rfl) z s (fun _ _ _=>id) (fun w s=>r_fa fa58_0 k z z) fun a k=>dt k 1 z (by kernel_rfl) z s (fun _ _ _=>id) (fun w s=>r_ld1 t155 (r:=[]) (Ah.at ((hMd.step s).a 1 z) 0 1 z z z) k z z) fun a k=>oE h fun Ca Au h=>dt k 4 z (by kernel_rfl) z s (fun _ _ _=>id) (fun w s=>r_ixa (Enc.ow_rd Ac) Au k ts63 z z z) fun a k=>dt k 5 z (by kernel_rfl) z s (fun _ _ _=>id) (fun w s=>r_lde1 (Enc.ow_rd Ac) ((hMd.step s).a 2 z) Au 0 t13 k z z z z) fun a k=>oE h fun Cs As h=>dt k 6 z (by kernel_rfl) z s (fun _ _ _=>id) (fun w s=>r_ixa Ab As k ts55 z z z) fun a k=>?_
           refine dt k 7 z (by kernel_rfl) z s (fun _ _ _=>id) (fun w s=>r_fa fa83_1 k z z) fun a k=>?_
           obtain ⟨Ci,Bz,Cy,Bg,Br,Bh⟩:=rd_get Ab (ix_some As).2.2
           obtain ⟨Cj,_,rfl,rfl,Cb⟩:=Bg
           refine dt k 8 z (by kernel_rfl) z s (fun _ _ _=>id) (fun w s=>r_ld1 t13 ((Br.agr ((hMd.step s).a00 (Enc.rd_lt Ab)) Bh).fld 1 1 (Nat.le_of_ble_eq_true z)) k z z) fun a k=>dt k 9 z (by kernel_rfl) z s (fun _ _ _=>id) (fun w s=>r_fa fa58_0 k z z) fun a k=>dt k 10 z (by kernel_rfl) z s (fun _ _ _=>id) (fun w s=>r_ld1 t155 (r:=[]) (Ah.at ((hMd.step s).a 1 z) 0 1 z z z) k z z) fun a k=>oE h fun Cz Ax h=>dt k 12 z (by kernel_rfl) z s (fun _ _ _=>id) (fun w s=>r_ixa (Enc.ow_rd Ac) Ax k ts63 z z z) fun a k=>dt k 13 z (by kernel_rfl) z s (fun _ _ _=>id) (fun w s=>r_lde1 (Enc.ow_rd Ac) ((hMd.step s).a 2 z) Ax 0 t13 k z z z z) fun a k=>oE h fun Cc Bd h=>?_
           refine dt k 14 z (by kernel_rfl) z s (fun _ _ _=>id) (fun w s=>r_ixa Ab Bd k ts55 z z z) fun a k=>dt k 15 z (by kernel_rfl) z s (fun _ _ _=>id) (fun w s=>r_fa fa83_1 k z z) fun a k=>?_
           obtain ⟨Cr,Cp,Ct,Bj,Bu,Bs⟩:=rd_get Ab (ix_some Bd).2.2
           obtain ⟨By,_,rfl,rfl,Cx⟩:=Bj
           refine dt k 16 z (by kernel_rfl) z s (fun _ _ _=>id) (fun w s=>r_ld1 t13 ((Bu.agr ((hMd.step s).a00 (Enc.rd_lt Ab)) Bs).fld 1 1 (Nat.le_of_ble_eq_true z)) k z z) fun a k=>dN [17] 1 z k (by kernel_rfl) z s (fun _ _ _ _ _=>id) fun a k=>d_done (by kernel_rfl) ((nm_then ?_))
           refine cI h k z (fun Bo h=>?_) fun Bo h=>?_
           · refine wr (pN 1 k z fun a k=>nn (wp_ret (rt_block (rt_then (rt_then (rt_block (rt_block (rt_then (rt_then (rt_block (rt_then ?_)))))))))))
             refine fS h k m z z
           refine wp_skip (nm_block (nm_then ?_))
           refine wp_region_lit (pN 3 k z fun a k=>?_)
           have k:=k.keep [2,3,5,6,7,8] z
           refine nn ?_
           exact ⟨w64 (Al + 1),k.keep [2,3,5,6,7,8] z,m.sel [0,1,2] z (by decide),h⟩
         refine wp_exit (ex_then (ex_then (ex_same (nm_block (nm_then ?_)))))
         exact ⟨k.keep [2,3,5,6] z,m.sel [0,1] z (by decide),h⟩
       exact ⟨1,k.keep [2,3,5,6,7,8] z,m.sel [0,1,2] z (by decide),h⟩
     refine wp_seq (d_go [] mixo m z fun Bm hMd=>?_)
     have m:=hMd
     have s:=Ext.refl ([]:List Nat) Bm
     refine dN [0] 1 z k (by kernel_rfl) z s (fun _ _ _ _ _=>id) fun a k=>dt k 1 z (by kernel_rfl) z s (fun _ _ _=>id) (fun w s=>r_len (α:=Int) (Enc.ow_rd Ac) k underlying63 z z) fun a k=>dN [2,3] 2 z k (by kernel_rfl) z s (fun _ _ _ _ _=>id) fun a k=>bsplit (((Ap.length:Int)) == 0) (fun Ai=>?_) (fun Ai=>?_)
     · have h:=bif_t Ai h
       refine rB k 23 z Ai fun k=>dN [4,5,6,7,8,9,10,11,12] 9 z k (by kernel_rfl) z s (fun _ _ _ _ _=>id) fun a k=>d_done (by kernel_rfl) ((nm_then ?_))
       refine wp_cond_true (k.ev z) (wr (pN 1 k z fun a k=>nn (wp_ret (rt_then (rt_block (rt_then (rt_then (rt_block (rt_then ?_)))))))))
       refine fS h k m z z
     have h:=bif_f Ai h
     refine rB k 23 z Ai fun k=>dN [6] 1 z k (by kernel_rfl) z s (fun _ _ _ _ _=>id) fun a k=>dt k 4 z (by kernel_rfl) z s (fun _ _ _=>id) (fun w s=>r_ldA ta38 (Be.at ((hMd.step s).a 1 z) 0 10 z z z) z k z z) fun a k=>dt k 5 z (by kernel_rfl) z s (fun _ _ _=>id) (fun w s=>r_ldA ta58 (Ah.at ((hMd.step s).a 2 z) 0 2 z z z) z k z z) fun a k=>dt k 8 z (by kernel_rfl) z s (fun _ _ _=>id) (fun w s=>r_fa fa38_1 k z z) fun a k=>dt k 9 z (by kernel_rfl) z s (fun _ _ _=>id) (fun w s=>r_fa fa33_3 k z z) fun a k=>dt k 10 z (by kernel_rfl) z s (fun _ _ _=>id) (fun w s=>r_ld1 t13 (r:=[]) (Be.at ((hMd.step s).a 1 z) 4 1 z z z) k z z) fun a k=>d_one 7 (by kernel_rfl) z (oE h fun Cw Bi h=>?_)
     refine cE k m call217 z z z (c_spec_PalletGram fu _ _ _ (show rd _ _ [I r1.fWay,I r1.fPallet.fW,I r1.fPallet.fD,I r1.fPallet.fH,I r1.fPallet.fGram,I r1.fClasses,v9,At,I r1.fMaster,Bc] (r1:Request) from ⟨_,_,_,_,_,_,z,z,(Enc.rd_agr Ay (m.a00 (Enc.rd_lt Ay))),(Enc.rd_agr Bf (m.a00 (Enc.rd_lt Bf))),(Enc.rd_agr Az (m.a00 (Enc.rd_lt Az)))⟩) (show rd _ _ [Aq,Am] (x5:Plan) from ⟨_,_,_,_,z,z,(Enc.rd_agr Ab (m.a00 (Enc.rd_lt Ab))),(Enc.rd_agr Ag (m.a00 (Enc.rd_lt Ag)))⟩) Bi) fun Ch e a k m=>?_
     have s:=s.trans e (by simp)
     refine wpList_nil ⟨s,?_⟩
     refine dN [11,12] 2 z k (by kernel_rfl) z s (fun _ _ _ _ _=>id) fun a k=>d_done (by kernel_rfl) ((nm_then ?_))
     refine cI h k z (fun Bk h=>?_) fun Bk h=>?_
     · refine wr (pN 1 k z fun a k=>nn (wp_ret (rt_then (rt_block (rt_then (rt_then (rt_block (rt_then ?_))))))))
       refine fS h k m z z
     refine wp_skip (nm_then ?_)
     exact ⟨k.keep [2,3,5,6,7] z,m.sel [1,2,0] z (by decide),h⟩
   refine wp_exit (ex_then (ex_then (ex_same (nm_then ?_))))
   refine wr (pN 1 k z fun a k=>nn (wp_ret (fS h k m z z)))
 exact ⟨0,k.keep [2,3,5,6] z,m.sel [1,0] z (by decide),h⟩
theorem c_spec_Check (fu:Nat) {w0:World} (r1:Request) (x5:Plan) {Ap:List Value} {F3:List Nat} (Aw:rd w0 F3 Ap r1) {Ao:List Value} {F7:List Nat} (Bo:rd w0 F7 Ao x5) {r:Int}
    (h:d_spec_Check fu r1 x5 = some r) :
    Calls Tryz.prog 33 #[.agg Ap.toArray,.agg Ao.toArray] w0 fun e w=>e = .returned (I r) ∧ Ext [] w0 w:=by
 refine enter (vs:=[_,_]) func33 z ntmps33 z fun a k=>?_
 have m:=St.start w0
 obtain ⟨v9,Cj,Ah,Ck,Aj,Ct,rfl,rfl,Ad,Ae,Ac⟩:=Aw
 obtain ⟨Af,Bx,Ag,Bz,rfl,rfl,Aa,Ab⟩:=Bo
 unfold d_spec_Check at h
 refine wr (s_box (cs:=[I r1.fWay,I r1.fPallet.fW,I r1.fPallet.fD,I r1.fPallet.fH,I r1.fPallet.fGram,I r1.fClasses,v9,Ah,I r1.fMaster,Aj]) m k z z z z z z fun Ar Bp a k m e Ak=>s_box (cs:=[Af,Ag]) m k z z z z z z fun Aq Au a k m e Ai=>pN 1 k z fun a k=>nn (wp_seq (wr (sv k z (r_ldB ta38 m 1 Ak 0 k z z z z z z) fun a k=>oE h fun Ch Bm h=>?_))))
 refine cE k m call74 z z z (c_spec_Class fu _ (show rd _ _ [I r1.fWay,I r1.fPallet.fW,I r1.fPallet.fD,I r1.fPallet.fH,I r1.fPallet.fGram,I r1.fClasses,v9,Ah,I r1.fMaster,Aj] (r1:Request) from ⟨_,_,_,_,_,_,z,z,(Enc.rd_agr Ad (m.a00 (Enc.rd_lt Ad))),(Enc.rd_agr Ae (m.a00 (Enc.rd_lt Ae))),(Enc.rd_agr Ac (m.a00 (Enc.rd_lt Ac)))⟩) Bm) fun Bv e a k m=>pN 1 k z fun a k=>nn (cI h k z (fun Bq h=>?_) fun Bq h=>?_)
 · refine wr (pN 1 k z fun a k=>nn (wp_ret (rt_then ?_)))
   refine fS h k m z z
 refine wp_skip (nm_then ?_)
 refine c_cut (fun a w=>K 54 [(2,.pointer (some (⟨Ar,0,none⟩:Addr))),(3,.pointer (some (⟨Aq,0,none⟩:Addr)))] a ∧ St [] w0 w [([Ar],Bp),([Aq],Au)] ∧ d_spec_Check_J1 fu r1 x5 = some r) ?_ ?_
 · rintro a Co ⟨k,m,h⟩
   unfold d_spec_Check_J1 at h
   refine wr (sv k z (r_ldB ta38 m 0 Ak 0 k z z z z z z) fun a k=>oE h fun Cd Bj h=>s_call k call90 z z z z z (c_spec_l6Units fu _ (show rd _ _ [I r1.fWay,I r1.fPallet.fW,I r1.fPallet.fD,I r1.fPallet.fH,I r1.fPallet.fGram,I r1.fClasses,v9,Ah,I r1.fMaster,Aj] (r1:Request) from ⟨_,_,_,_,_,_,z,z,(Enc.rd_agr Ad (m.a00 (Enc.rd_lt Ad))),(Enc.rd_agr Ae (m.a00 (Enc.rd_lt Ae))),(Enc.rd_agr Ac (m.a00 (Enc.rd_lt Ac)))⟩) Bj) fun By Cc hR=>?_)
   obtain ⟨Cb,Bc,rfl,e,Am,Be⟩:=hR
   refine ⟨_,z,fun a k=>?_⟩
   have m:=m.new e Bc (fun b hb=>⟨Be b hb,Enc.rd_lt (Enc.ow_rd Am) b hb⟩) (Enc.ow_nd Am)
   refine pN 1 k z fun a k=>nn (wp_seq (wp_block (wr (pN 1 k z fun a k=>sv k z (r_ldB ta58 m 2 Ai 0 k z z z z z z) fun a k=>oE h fun Cl Ax h=>cE k m call106 z z z (c_spec_l15Units fu _ _ (Enc.rd_agr (Enc.ow_rd Am) (m.a 0 z)) (show rd _ _ [Af,Ag] (x5:Plan) from ⟨_,_,_,_,z,z,(Enc.rd_agr Aa (m.a00 (Enc.rd_lt Aa))),(Enc.rd_agr Ab (m.a00 (Enc.rd_lt Ab)))⟩) Ax) fun Ci e a k m=>pN 2 k z fun a k=>nn (cI h k z (fun Bg h=>?_) fun Bg h=>?_)))))
   · refine wr (pN 1 k z fun a k=>nn (wp_ret (rt_block (rt_then ?_))))
     refine fS h k m z z
   refine wr (sv k z (r_ldB ta38 m 1 Ak 0 k z z z z z z) fun a k=>sv k z (r_ldB ta58 m 2 Ai 0 k z z z z z z) fun a k=>oE h fun Cs Bi h=>cE k m call107 z z z (c_spec_l15Holds fu _ _ (show rd _ _ [I r1.fWay,I r1.fPallet.fW,I r1.fPallet.fD,I r1.fPallet.fH,I r1.fPallet.fGram,I r1.fClasses,v9,Ah,I r1.fMaster,Aj] (r1:Request) from ⟨_,_,_,_,_,_,z,z,(Enc.rd_agr Ad (m.a00 (Enc.rd_lt Ad))),(Enc.rd_agr Ae (m.a00 (Enc.rd_lt Ae))),(Enc.rd_agr Ac (m.a00 (Enc.rd_lt Ac)))⟩) (show rd _ _ [Af,Ag] (x5:Plan) from ⟨_,_,_,_,z,z,(Enc.rd_agr Aa (m.a00 (Enc.rd_lt Aa))),(Enc.rd_agr Ab (m.a00 (Enc.rd_lt Ab)))⟩) Bi) fun Cr e a k m=>pN 2 k z fun a k=>nn (cI h k z (fun At h=>?_) fun At h=>?_))
   · refine wr (pN 1 k z fun a k=>nn (wp_ret (rt_block (rt_then ?_))))
     refine fS h k m z z
   refine wr (sv k z (r_ldB ta38 m 1 Ak 0 k z z z z z z) fun a k=>pN 1 k z fun a k=>sv k z (r_ldB ta58 m 2 Ai 0 k z z z z z z) fun a k=>oE h fun Cg Bb h=>cE k m call108 z z z (c_spec_l15Group fu _ _ _ (show rd _ _ [I r1.fWay,I r1.fPallet.fW,I r1.fPallet.fD,I r1.fPallet.fH,I r1.fPallet.fGram,I r1.fClasses,v9,Ah,I r1.fMaster,Aj] (r1:Request) from ⟨_,_,_,_,_,_,z,z,(Enc.rd_agr Ad (m.a00 (Enc.rd_lt Ad))),(Enc.rd_agr Ae (m.a00 (Enc.rd_lt Ae))),(Enc.rd_agr Ac (m.a00 (Enc.rd_lt Ac)))⟩) (Enc.rd_agr (Enc.ow_rd Am) (m.a 0 z)) (show rd _ _ [Af,Ag] (x5:Plan) from ⟨_,_,_,_,z,z,(Enc.rd_agr Aa (m.a00 (Enc.rd_lt Aa))),(Enc.rd_agr Ab (m.a00 (Enc.rd_lt Ab)))⟩) Bb) fun Cu e a k m=>?_)
   refine pN 2 k z fun a k=>nn (cI h k z (fun Bd h=>?_) fun Bd h=>?_)
   · refine wr (pN 1 k z fun a k=>nn (wp_ret (rt_block (rt_then ?_))))
     refine fS h k m z z
   refine wr (sv k z (r_ldB ta38 m 1 Ak 0 k z z z z z z) fun a k=>sv k z (r_ldB ta58 m 2 Ai 0 k z z z z z z) fun a k=>oE h fun Cq As h=>cE k m call109 z z z (c_spec_l15Cheap fu _ _ (show rd _ _ [I r1.fWay,I r1.fPallet.fW,I r1.fPallet.fD,I r1.fPallet.fH,I r1.fPallet.fGram,I r1.fClasses,v9,Ah,I r1.fMaster,Aj] (r1:Request) from ⟨_,_,_,_,_,_,z,z,(Enc.rd_agr Ad (m.a00 (Enc.rd_lt Ad))),(Enc.rd_agr Ae (m.a00 (Enc.rd_lt Ae))),(Enc.rd_agr Ac (m.a00 (Enc.rd_lt Ac)))⟩) (show rd _ _ [Af,Ag] (x5:Plan) from ⟨_,_,_,_,z,z,(Enc.rd_agr Aa (m.a00 (Enc.rd_lt Aa))),(Enc.rd_agr Ab (m.a00 (Enc.rd_lt Ab)))⟩) As) fun Cn e a k m=>pN 2 k z fun a k=>nn (cI h k z (fun Bl h=>?_) fun Bl h=>?_))
   · refine wr (pN 1 k z fun a k=>?_)
     have k:=k.keep [4] z
     refine nn (wp_ret (rt_block (rt_then ?_)))
     refine fS h k m z z
   refine wr (sv k z (r_ldB ta38 m 1 Ak 0 k z z z z z z) fun a k=>sv k z (r_ldB ta58 m 2 Ai 0 k z z z z z z) fun a k=>oE h fun Cv Ay h=>cE k m call110 z z z (c_spec_l15Inside fu _ _ (show rd _ _ [I r1.fWay,I r1.fPallet.fW,I r1.fPallet.fD,I r1.fPallet.fH,I r1.fPallet.fGram,I r1.fClasses,v9,Ah,I r1.fMaster,Aj] (r1:Request) from ⟨_,_,_,_,_,_,z,z,(Enc.rd_agr Ad (m.a00 (Enc.rd_lt Ad))),(Enc.rd_agr Ae (m.a00 (Enc.rd_lt Ae))),(Enc.rd_agr Ac (m.a00 (Enc.rd_lt Ac)))⟩) (show rd _ _ [Af,Ag] (x5:Plan) from ⟨_,_,_,_,z,z,(Enc.rd_agr Aa (m.a00 (Enc.rd_lt Aa))),(Enc.rd_agr Ab (m.a00 (Enc.rd_lt Ab)))⟩) Ay) fun Cm e a k m=>pN 2 k z fun a k=>?_)
   have k:=k.keep [2,3,39] z
   refine nn (cI h k z (fun Az h=>?_) fun Az h=>?_)
   · refine wr (pN 1 k z fun a k=>nn (wp_ret (rt_block (rt_then ?_))))
     refine fS h k m z z
   refine wr (sv k z (r_ldB ta38 m 1 Ak 0 k z z z z z z) fun a k=>sv k z (r_ldB ta58 m 2 Ai 0 k z z z z z z) fun a k=>oE h fun Ca Ba h=>cE k m call111 z z z (c_spec_l15Apart fu _ _ (show rd _ _ [I r1.fWay,I r1.fPallet.fW,I r1.fPallet.fD,I r1.fPallet.fH,I r1.fPallet.fGram,I r1.fClasses,v9,Ah,I r1.fMaster,Aj] (r1:Request) from ⟨_,_,_,_,_,_,z,z,(Enc.rd_agr Ad (m.a00 (Enc.rd_lt Ad))),(Enc.rd_agr Ae (m.a00 (Enc.rd_lt Ae))),(Enc.rd_agr Ac (m.a00 (Enc.rd_lt Ac)))⟩) (show rd _ _ [Af,Ag] (x5:Plan) from ⟨_,_,_,_,z,z,(Enc.rd_agr Aa (m.a00 (Enc.rd_lt Aa))),(Enc.rd_agr Ab (m.a00 (Enc.rd_lt Ab)))⟩) Ba) fun Bt e a k m=>pN 2 k z fun a k=>nn (cI h k z (fun Bf h=>?_) fun Bf h=>?_))
   · refine wr (pN 1 k z fun a k=>nn (wp_ret (rt_block (rt_then ?_))))
     refine fS h k m z z
   refine wr (sv k z (r_ldB ta38 m 1 Ak 0 k z z z z z z) fun a k=>sv k z (r_ldB ta58 m 2 Ai 0 k z z z z z z) fun a k=>oE h fun Cf Bk h=>cE k m call112 z z z (c_spec_l15Pallets fu _ _ (show rd _ _ [I r1.fWay,I r1.fPallet.fW,I r1.fPallet.fD,I r1.fPallet.fH,I r1.fPallet.fGram,I r1.fClasses,v9,Ah,I r1.fMaster,Aj] (r1:Request) from ⟨_,_,_,_,_,_,z,z,(Enc.rd_agr Ad (m.a00 (Enc.rd_lt Ad))),(Enc.rd_agr Ae (m.a00 (Enc.rd_lt Ae))),(Enc.rd_agr Ac (m.a00 (Enc.rd_lt Ac)))⟩) (show rd _ _ [Af,Ag] (x5:Plan) from ⟨_,_,_,_,z,z,(Enc.rd_agr Aa (m.a00 (Enc.rd_lt Aa))),(Enc.rd_agr Ab (m.a00 (Enc.rd_lt Ab)))⟩) Bk) fun Bu e a k m=>pN 2 k z fun a k=>nn ?_)
   refine cI h k z (fun Br h=>?_) fun Br h=>?_
   · refine wr (pN 1 k z fun a k=>nn (wp_ret (rt_block (rt_then ?_))))
     refine fS h k m z z
   refine wp_skip (nm_block (nm_then ?_))
   refine wr (pN 1 k z fun a k=>nn (wp_ret (fS h k m z z)))
 refine wr (sv k z (r_ldB ta58 m 0 Ai 0 k z z z z z z) fun a k=>oE h fun Av Bh h=>cE k m call104 z z z (c_spec_PlanOk fu _ (show rd _ _ [Af,Ag] (x5:Plan) from ⟨_,_,_,_,z,z,(Enc.rd_agr Aa (m.a00 (Enc.rd_lt Aa))),(Enc.rd_agr Ab (m.a00 (Enc.rd_lt Ab)))⟩) Bh) fun Cp e a k m=>pN 2 k z fun a k=>bsplit (!Av) (fun Al=>?_) (fun Al=>?_))
 · have h:=bif_t Al h
   refine rB k 12 z Al fun k=>pN 3 k z fun a k=>nn (wp_cond_true (k.ev z) (wr (pN 1 k z fun a k=>nn (wp_ret (rt_then ?_)))))
   refine fS h k m z z
 have h:=bif_f Al h
 refine rB k 12 z Al fun k=>sv k z (r_ldB ta58 m 0 Ai 0 k z z z z z z) fun a k=>oE h fun Ce Bs h=>cE k m call105 z z z (c_spec_l15Empty fu _ (show rd _ _ [Af,Ag] (x5:Plan) from ⟨_,_,_,_,z,z,(Enc.rd_agr Aa (m.a00 (Enc.rd_lt Aa))),(Enc.rd_agr Ab (m.a00 (Enc.rd_lt Ab)))⟩) Bs) fun Bw e a k m=>pN 1 k z fun a k=>nn (cI h k z (fun Bn h=>?_) fun Bn h=>?_)
 · refine wr (pN 1 k z fun a k=>nn (wp_ret (rt_then ?_)))
   refine fS h k m z z
 refine wp_skip (nm_then ?_)
 exact ⟨k.keep [2,3] z,m.sel [1,0] z (by decide),h⟩
theorem c_spec_Feasible (fu:Nat) {w0:World} (r1:Request) (x5:Plan) {Ai:List Value} {F3:List Nat} (Al:rd w0 F3 Ai r1) {Ae:List Value} {F7:List Nat} (Ap:rd w0 F7 Ae x5) {r:Bool}
    (h:d_spec_Feasible fu r1 x5 = some r) :
    Calls Tryz.prog 37 #[.agg Ai.toArray,.agg Ae.toArray] w0 fun e w=>e = .returned (.bool (r)) ∧ Ext [] w0 w:=by
 refine enter (vs:=[_,_]) func37 z ntmps37 z fun a k=>?_
 have m:=St.start w0
 obtain ⟨v9,Aw,Ac,Ax,Af,Az,rfl,rfl,Ah,Ak,Ab⟩:=Al
 obtain ⟨Ag,Ar,Aj,At,rfl,rfl,Aa,Ad⟩:=Ap
 unfold d_spec_Feasible at h
 refine wr (s_box (cs:=[I r1.fWay,I r1.fPallet.fW,I r1.fPallet.fD,I r1.fPallet.fH,I r1.fPallet.fGram,I r1.fClasses,v9,Ac,I r1.fMaster,Af]) m k z z z z z z fun Bb Ay a k m e Aq=>s_box (cs:=[Ag,Aj]) m k z z z z z z fun Ba Au a k m e Am=>pN 1 k z fun a k=>nn (wr (sv k z (r_ldB ta38 m 1 Aq 0 k z z z z z z) fun a k=>sv k z (r_ldB ta58 m 0 Am 0 k z z z z z z) fun a k=>oE h fun Av Ao h=>?_)))
 refine cE k m call33 z z z (c_spec_Check fu _ _ (show rd _ _ [I r1.fWay,I r1.fPallet.fW,I r1.fPallet.fD,I r1.fPallet.fH,I r1.fPallet.fGram,I r1.fClasses,v9,Ac,I r1.fMaster,Af] (r1:Request) from ⟨_,_,_,_,_,_,z,z,(Enc.rd_agr Ah (m.a00 (Enc.rd_lt Ah))),(Enc.rd_agr Ak (m.a00 (Enc.rd_lt Ak))),(Enc.rd_agr Ab (m.a00 (Enc.rd_lt Ab)))⟩) (show rd _ _ [Ag,Aj] (x5:Plan) from ⟨_,_,_,_,z,z,(Enc.rd_agr Aa (m.a00 (Enc.rd_lt Aa))),(Enc.rd_agr Ad (m.a00 (Enc.rd_lt Ad)))⟩) Ao) fun As e a k m=>pN 2 k z fun a k=>nn (wp_ret (fS h k m z z))

end Go.Proofs.YtkkfmjpbiimkbaaGreat
