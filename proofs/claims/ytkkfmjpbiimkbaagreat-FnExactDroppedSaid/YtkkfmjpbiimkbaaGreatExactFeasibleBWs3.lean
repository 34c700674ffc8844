/- FnExactFeasible: the walks of functions that it reaches (ExactFeasibleBWs,part 3). Printed by gen.py. -/
import Derived.Test.YtkkfmjpbiimkbaaGreatExactFeasibleBWs2
set_option maxRecDepth 20000
set_option linter.unusedSimpArgs false
set_option linter.unusedVariables false
namespace Go.Proofs.YtkkfmjpbiimkbaaGreat
open Go Go.RowKit
open Enc (rd ow)
open Arg (argv)
open Ret (retv)
open Go.Proofs.Tryz

theorem c_spec_l15Cheap (fu:Nat) {w0:World} (r1:Request) (x5:Plan) {Ay:List Value} {F3:List Nat} (Bf:rd w0 F3 Ay r1) {Aw:List Value} {F7:List Nat} (Bi:rd w0 F7 Aw x5) {r:Bool}
    (h:d_spec_l15Cheap fu r1 x5 = some r) :
    Calls Tryz.prog 109 #[.agg Ay.toArray,.agg Aw.toArray] w0 fun e w=>e = .returned (.bool (r)) ∧ Ext [] w0 w:=by
 refine enter (vs:=[_,_]) func109 z ntmps109 z fun a k=>?_
 have m:=St.start w0
 obtain ⟨v9,Cx,Au,Db,Ar,Cr,rfl,rfl,Ao,Al,Ak⟩:=Bf
 obtain ⟨Bg,Cn,Bx,Cs,rfl,rfl,Ae,Cu⟩:=Bi
 unfold d_spec_l15Cheap at h
 refine wr (s_box (cs:=[I r1.fWay,I r1.fPallet.fW,I r1.fPallet.fD,I r1.fPallet.fH,I r1.fPallet.fGram,I r1.fClasses,v9,Au,I r1.fMaster,Ar]) m k z z z z z z fun Ag As a k m e Bj=>s_box (cs:=[Bg,Bx]) m k z z z z z z fun Af Aq a k m e Ap=>pN 1 k z fun a k=>nn (wp_seq (wr (pN 1 k z fun a k=>nn (wp_block (c_loop (fun n a w=>∃ (Ad:Int),K 39 [(2,.pointer (some (⟨Ag,0,none⟩:Addr))),(3,.pointer (some (⟨Af,0,none⟩:Addr))),(5,I Ad)] a ∧ St [] w0 w [([Ag],As),([Af],Aq)] ∧ d_spec_l15Cheap_L1 fu r1 x5 n Ad = some r) ?_ ?_ fu _ _ ?_))))))
 · rintro a w ⟨_,_,_,h⟩
   exact nS h
 · rintro Az a Da ⟨Ad,k,m,h⟩
   rw [d_spec_l15Cheap_L1_s] at h
   unfold d_spec_l15Cheap_L1_B at h
   refine wp_seq (wr (pN 1 k z fun a k=>sv k z (r_fa fa58_0 k z z) fun a k=>sv k z (r_ldb t155 m 1 Ap 0 k z z z z z) fun a k=>sv k z (r_len (α:=Carton) Ae k underlying55 z z) fun a k=>pN 1 k z fun a k=>nn (cI h k z (fun Bt h=>?_) fun Bt h=>?_)))
   · refine wp_skip (nm_then ?_)
     refine c_cut (fun a w=>K 39 [(2,.pointer (some (⟨Ag,0,none⟩:Addr))),(3,.pointer (some (⟨Af,0,none⟩:Addr))),(5,I Ad)] a ∧ St [] w0 w [([Ag],As),([Af],Aq)] ∧ d_spec_l15Cheap_J1 fu (d_spec_l15Cheap_L1 fu r1 x5 Az) Ad = some r) ?_ ?_
     · rintro a Cy ⟨k,m,h⟩
       unfold d_spec_l15Cheap_J1 at h
       refine wp_region_lit (pN 3 k z fun a k=>nn ?_)
       exact ⟨w64 (Ad + 1),k.keep [2,3,5] z,m.sel [0,1] z (by decide),h⟩
     refine wp_block (c_cut (fun a w=>∃ (Aa:Typ) (Ai:Nat) (At:World) (Aj:Bool),K 39 [(2,.pointer (some (⟨Ag,0,none⟩:Addr))),(3,.pointer (some (⟨Af,0,none⟩:Addr))),(5,I Ad),(6,.pointer (some (⟨Ai,0,none⟩:Addr))),(7,.bool (Aj))] a ∧ St [] w0 w [([Ag],As),([Af],Aq),([Ai],At)] ∧ bx At Ai [I Aa.fId,I Aa.fW,I Aa.fH,I Aa.fD,I Aa.fTare,I Aa.fGram,I Aa.fCost] 79 ∧ d_spec_l15Cheap_J2 fu (d_spec_l15Cheap_L1 fu r1 x5 Az) x5 Ad Aa Aj = some r) ?_ ?_)
     · rintro a Ch ⟨Aa,Ai,At,Aj,k,m,Bc,h⟩
       unfold d_spec_l15Cheap_J2 at h
       refine wp_seq (d_go [] mixo m z fun Bw hMd=>?_)
       have m:=hMd
       have s:=Ext.refl ([]:List Nat) Bw
       refine dN [0,1,2] 3 z k (by kernel_rfl) z s (fun _ _ _ _ _=>id) fun a k=>bsplit (!Aj) (fun Ah=>?_) (fun Ah=>?_)
       · have h:=bif_t Ah h
         refine rB k 28 z Ah fun k=>dN [3,4,5,6,7,8,9,10,11,12] 10 z k (by kernel_rfl) z s (fun _ _ _ _ _=>id) fun a k=>d_done (by kernel_rfl) ((nm_then ?_))
         refine wp_cond_true (k.ev z) (wr (pN 1 k z fun a k=>nn (wp_ret (rt_block (rt_then (rt_then (rt_block (rt_then ?_))))))))
         refine fS h k m z z
       have h:=bif_f Ah h
       refine rB k 28 z Ah fun k=>dN [7] 1 z k (by kernel_rfl) z s (fun _ _ _ _ _=>id) fun a k=>dt k 3 z (by kernel_rfl) z s (fun _ _ _=>id) (fun w s=>r_fa fa79_0 k z z) fun a k=>dt k 4 z (by kernel_rfl) z s (fun _ _ _=>id) (fun w s=>r_ld1 t13 (r:=[]) (Bc.at ((hMd.step s).a 2 z) 0 1 z z z) k z z) fun a k=>dt k 5 z (by kernel_rfl) z s (fun _ _ _=>id) (fun w s=>r_fa fa58_0 k z z) fun a k=>dt k 6 z (by kernel_rfl) z s (fun _ _ _=>id) (fun w s=>r_ld1 t155 (r:=[]) (Ap.at ((hMd.step s).a 1 z) 0 1 z z z) k z z) fun a k=>oE h fun Cm Av h=>dt k 8 z (by kernel_rfl) z s (fun _ _ _=>id) (fun w s=>r_ixa Ae Av k ts55 z z z) fun a k=>dt k 9 z (by kernel_rfl) z s (fun _ _ _=>id) (fun w s=>r_fa fa83_0 k z z) fun a k=>?_
       obtain ⟨Cv,Cq,Cz,Cb,Ba,Bk⟩:=rd_get Ae (ix_some Av).2.2
       obtain ⟨Cj,_,rfl,rfl,Ce⟩:=Cb
       refine dt k 10 z (by kernel_rfl) z s (fun _ _ _=>id) (fun w s=>r_ld1 t13 ((Ba.agr ((hMd.step s).a00 (Enc.rd_lt Ae)) Bk).fld 0 1 (Nat.le_of_ble_eq_true z)) k z z) fun a k=>dN [11,12] 2 z k (by kernel_rfl) z s (fun _ _ _ _ _=>id) fun a k=>d_done (by kernel_rfl) ((nm_then ?_))
       refine cI h k z (fun Bq h=>?_) fun Bq h=>?_
       · refine wr (pN 1 k z fun a k=>nn (wp_ret (rt_block (rt_then (rt_then (rt_block (rt_then ?_)))))))
         refine fS h k m z z
       refine wp_skip (nm_block (nm_then ?_))
       exact ⟨k.keep [2,3,5] z,m.sel [0,1] z (by decide),h⟩
     refine d_go [] mixo m z fun Bz hMd=>?_
     have m:=hMd
     have s:=Ext.refl ([]:List Nat) Bz
     refine dN [3] 1 z k (by kernel_rfl) z s (fun _ _ _ _ _=>id) fun a k=>dt k 0 z (by kernel_rfl) z s (fun _ _ _=>id) (fun w s=>r_ldA ta38 (Bj.at ((hMd.step s).a 0 z) 0 10 z z z) z k z z) fun a k=>dt k 1 z (by kernel_rfl) z s (fun _ _ _=>id) (fun w s=>r_fa fa58_0 k z z) fun a k=>dt k 2 z (by kernel_rfl) z s (fun _ _ _=>id) (fun w s=>r_ld1 t155 (r:=[]) (Ap.at ((hMd.step s).a 1 z) 0 1 z z z) k z z) fun a k=>oE h fun Ck Ax h=>dt k 4 z (by kernel_rfl) z s (fun _ _ _=>id) (fun w s=>r_ixa Ae Ax k ts55 z z z) fun a k=>dt k 5 z (by kernel_rfl) z s (fun _ _ _=>id) (fun w s=>r_fa fa83_2 k z z) fun a k=>?_
     obtain ⟨Ci,Cf,Ct,Bn,By,Bs⟩:=rd_get Ae (ix_some Ax).2.2
     obtain ⟨Cw,_,rfl,rfl,Am⟩:=Bn
     refine dt k 6 z (by kernel_rfl) z s (fun _ _ _=>id) (fun w s=>r_ld1 t163 ((By.agr ((hMd.step s).a00 (Enc.rd_lt Ae)) Bs).fld 2 1 (Nat.le_of_ble_eq_true z)) k z z) fun a k=>d_two 7 11 (by kernel_rfl) z z ?_ ?_ 
     · refine oE h fun Ab Bb h=>cE k m call204 z z z (c_spec_Cheapest fu _ _ (show rd _ _ [I r1.fWay,I r1.fPallet.fW,I r1.fPallet.fD,I r1.fPallet.fH,I r1.fPallet.fGram,I r1.fClasses,v9,Au,I r1.fMaster,Ar] (r1:Request) from ⟨_,_,_,_,_,_,z,z,(Enc.rd_agr Ao (m.a00 (Enc.rd_lt Ao))),(Enc.rd_agr Al (m.a00 (Enc.rd_lt Al))),(Enc.rd_agr Ak (m.a00 (Enc.rd_lt Ak)))⟩) (Enc.rd_agr Am (m.a00 (Enc.rd_lt Am))) Bb) fun Cg e a k m=>?_
       have s:=s.trans e (by simp)
       refine wpList_nil ⟨s,?_⟩
       refine dN [8,9,10] 3 z k (by kernel_rfl) z s (fun _ _ _ _ _=>id) fun a k=>d_one 11 (by kernel_rfl) z (s_allocN (cs:=[I 0,I 0,I 0,I 0,I 0,I 0,I 0]) m k zeroValue79 z z z z z fun Bd Co a k m e Cc Bo=>?_)
       have Be:=lo1 (Nat.le_trans s.size Bo)
       have s:=s.trans e (by simp)
       refine wpList_nil ⟨s,?_⟩
       refine d_one 12 (by kernel_rfl) z (s_stb (cs':=[I Ab.1.fId,I Ab.1.fW,I Ab.1.fH,I Ab.1.fD,I Ab.1.fTare,I Ab.1.fGram,I Ab.1.fCost]) sizeOf79 m 0 Cc 0 k z z z z z z z z z z z fun Bh a k e m Bl=>?_)
       have s:=s.trans e (fun y hy=>Or.inr (Be y hy))
       refine wpList_nil ⟨s,?_⟩
       refine dN [13] 1 z k (by kernel_rfl) z s (fun _ _ _ _ _=>id) fun a k=>d_done (by kernel_rfl) ((nm_then ?_))
       exact ⟨Ab.1,Bd,Bh,Ab.2,k.keep [2,3,5,6,7] z,m.sel [1,2,0] z (by decide),Bl,h⟩
     refine s_allocN (cs:=[I 0,I 0,I 0,I 0,I 0,I 0,I 0]) m k zeroValue79 z z z z z fun Ca Cp a k m e Cd Bv=>?_
     have Bp:=lo1 (Nat.le_trans s.size Bv)
     have s:=s.trans e (by simp)
     refine wpList_nil ⟨s,?_⟩
     refine d_one 7 (by kernel_rfl) z (oE h fun Ac Bm h=>cE k m call204 z z z (c_spec_Cheapest fu _ _ (show rd _ _ [I r1.fWay,I r1.fPallet.fW,I r1.fPallet.fD,I r1.fPallet.fH,I r1.fPallet.fGram,I r1.fClasses,v9,Au,I r1.fMaster,Ar] (r1:Request) from ⟨_,_,_,_,_,_,z,z,(Enc.rd_agr Ao (m.a00 (Enc.rd_lt Ao))),(Enc.rd_agr Al (m.a00 (Enc.rd_lt Al))),(Enc.rd_agr Ak (m.a00 (Enc.rd_lt Ak)))⟩) (Enc.rd_agr Am (m.a00 (Enc.rd_lt Am))) Bm) fun Cl e a k m=>?_)
     have s:=s.trans e (by simp)
     refine wpList_nil ⟨s,?_⟩
     refine dN [8,9,10] 3 z k (by kernel_rfl) z s (fun _ _ _ _ _=>id) fun a k=>d_one 12 (by kernel_rfl) z (s_stb (cs':=[I Ac.1.fId,I Ac.1.fW,I Ac.1.fH,I Ac.1.fD,I Ac.1.fTare,I Ac.1.fGram,I Ac.1.fCost]) sizeOf79 m 0 Cd 0 k z z z z z z z z z z z fun Br a k e m Bu=>?_)
     have s:=s.trans e (fun y hy=>Or.inr (Bp y hy))
     refine wpList_nil ⟨s,?_⟩
     refine dN [13] 1 z k (by kernel_rfl) z s (fun _ _ _ _ _=>id) fun a k=>d_done (by kernel_rfl) ((nm_then ?_))
     exact ⟨Ac.1,Ca,Br,Ac.2,k.keep [2,3,5,6,7] z,m.sel [1,2,0] z (by decide),Bu,h⟩
   refine wp_exit (ex_then (ex_then (ex_same (nm_then ?_))))
   refine wr (pN 1 k z fun a k=>nn (wp_ret (fS h k m z z)))
 exact ⟨0,k.keep [2,3,5] z,m.sel [1,0] z (by decide),h⟩
theorem c_spec_Units (fu:Nat) {w0:World} (r1:Request) {Af:List Value} {F3:List Nat} (Ap:rd w0 F3 Af r1) {r:(List Int)}
    (h:d_spec_Units fu r1 = some r) :
    Calls Tryz.prog 166 #[.agg Af.toArray] w0 fun e w=>∃ (v0:Value) (G0:List Nat),e = .returned (v0) ∧ Ext [] w0 w ∧ ow w G0 [v0] r ∧ (∀ b ∈ G0,w0.heap.size ≤ b):=by
 refine enter (vs:=[_]) func166 z ntmps166 z fun a k=>?_
 have m:=St.start w0
 obtain ⟨v5,F6,v7,F8,v9,Aq,rfl,rfl,Ab,Aa,Ac⟩:=Ap
 unfold d_spec_Units at h
 refine wr (s_box (cs:=[I r1.fWay,I r1.fPallet.fW,I r1.fPallet.fD,I r1.fPallet.fH,I r1.fPallet.fGram,I r1.fClasses,v5,v7,I r1.fMaster,v9]) m k z z z z z z fun Au Aw a k m e Ae=>pN 1 k z fun a k=>nn (wp_seq (wr (sv k z (r_ldB ta38 m 0 Ae 0 k z z z z z z) fun a k=>oE h fun Ay Ao h=>cE k m call74 z z z (c_spec_Class fu _ (show rd _ _ [I r1.fWay,I r1.fPallet.fW,I r1.fPallet.fD,I r1.fPallet.fH,I r1.fPallet.fGram,I r1.fClasses,v5,v7,I r1.fMaster,v9] (r1:Request) from ⟨_,_,_,_,_,_,z,z,(Enc.rd_agr Ab (m.a00 (Enc.rd_lt Ab))),(Enc.rd_agr Aa (m.a00 (Enc.rd_lt Aa))),(Enc.rd_agr Ac (m.a00 (Enc.rd_lt Ac)))⟩) Ao) fun Ax e a k m=>?_))))
 refine pN 1 k z fun a k=>nn (cI h k z (fun Al h=>?_) fun Al h=>?_)
 · refine wr (s_bs (cs:=[]) (ps:=[]) te63 m k z z z z z z z (by decide) z (by exact (List.forall_mem_nil _)) fun Am Az Av a k m e Aj=>?_)
   have Ah:=ow_bx Aj ([]:List Int) z z z
   refine pN 1 k z fun a k=>nn (wp_ret (rt_then ?_))
   cases h
   exact finR1 k z (RV.tmp k z) ⟨_,[Am],z,m.ext,(Enc.ow_agr Ah (m.a 0 z)),(m.fresh 0 z)⟩
 refine wp_skip (nm_then ?_)
 refine wr (sv k z (r_ldB ta38 m 0 Ae 0 k z z z z z z) fun a k=>oE h fun Ba Ai h=>s_call k call90 z z z z z (c_spec_l6Units fu _ (show rd _ _ [I r1.fWay,I r1.fPallet.fW,I r1.fPallet.fD,I r1.fPallet.fH,I r1.fPallet.fGram,I r1.fClasses,v5,v7,I r1.fMaster,v9] (r1:Request) from ⟨_,_,_,_,_,_,z,z,(Enc.rd_agr Ab (m.a00 (Enc.rd_lt Ab))),(Enc.rd_agr Aa (m.a00 (Enc.rd_lt Aa))),(Enc.rd_agr Ac (m.a00 (Enc.rd_lt Ac)))⟩) Ai) fun Ar At hR=>?_)
 obtain ⟨As,Ag,rfl,e,Ad,Ak⟩:=hR
 refine ⟨_,z,fun a k=>?_⟩
 have m:=m.new e Ag (fun b hb=>⟨Ak b hb,Enc.rd_lt (Enc.ow_rd Ad) b hb⟩) (Enc.ow_nd Ad)
 refine pN 1 k z fun a k=>nn (wp_ret ?_)
 cases h
 exact finR1 k z (RV.tmp k z) ⟨_,Ag,z,m.ext,(Enc.ow_agr Ad (m.a 0 z)),(m.fresh 0 z)⟩
theorem c_spec_GramOf (fu:Nat) {w0:World} (r1:Request) (Aj:List Int) {Ba:List Value} {F3:List Nat} (Bs:rd w0 F3 Ba r1) {v6:Value} {F7:List Nat} (Al:rd w0 F7 [v6] Aj) {r:Int}
    (h:d_spec_GramOf fu r1 Aj = some r) :
    Calls Tryz.prog 302 #[.agg Ba.toArray,v6] w0 fun e w=>e = .returned (I r) ∧ Ext [] w0 w:=by
 refine enter (vs:=[_,_]) func302 z ntmps302 z fun a k=>?_
 have m:=St.start w0
 obtain ⟨v9,Bw,Ar,Cf,Ao,Cb,rfl,rfl,Ag,Af,Ah⟩:=Bs
 unfold d_spec_GramOf at h
 refine wr (s_box (cs:=[I r1.fWay,I r1.fPallet.fW,I r1.fPallet.fD,I r1.fPallet.fH,I r1.fPallet.fGram,I r1.fClasses,v9,Ar,I r1.fMaster,Ao]) m k z z z z z z fun Ae Av a k m e Az=>pN 1 k z fun a k=>nn (wr (sv k z (r_ldB ta38 m 0 Az 0 k z z z z z z) fun a k=>oE h fun As Bq h=>?_)))
 refine s_call k call166 z z z z z (c_spec_Units fu _ (show rd _ _ [I r1.fWay,I r1.fPallet.fW,I r1.fPallet.fD,I r1.fPallet.fH,I r1.fPallet.fGram,I r1.fClasses,v9,Ar,I r1.fMaster,Ao] (r1:Request) from ⟨_,_,_,_,_,_,z,z,(Enc.rd_agr Ag (m.a00 (Enc.rd_lt Ag))),(Enc.rd_agr Af (m.a00 (Enc.rd_lt Af))),(Enc.rd_agr Ah (m.a00 (Enc.rd_lt Ah)))⟩) Bq) fun Ca Aw hR=>?_
 obtain ⟨At,Am,rfl,e,Ak,Bc⟩:=hR
 refine ⟨_,z,fun a k=>?_⟩
 have m:=m.new e Am (fun b hb=>⟨Bc b hb,Enc.rd_lt (Enc.ow_rd Ak) b hb⟩) (Enc.ow_nd Ak)
 refine pN 1 k z fun a k=>nn (wr (pN 1 k z fun a k=>nn (wp_seq (wr (pN 1 k z fun a k=>nn (wp_block (c_loop (fun n a w=>∃ (Ai:Int) (Ad:Int),K 33 [(1,v6),(2,.pointer (some (⟨Ae,0,none⟩:Addr))),(5,At),(6,I Ai),(7,I Ad)] a ∧ St [] w0 w [([Ae],Av),(Am,Aw)] ∧ d_spec_GramOf_L1 fu r1 Aj As n Ai Ad = some r) ?_ ?_ fu _ _ ?_)))))))
 · rintro a w ⟨_,_,_,_,h⟩
   exact nS h
 · rintro Ay a Bz ⟨Ai,Ad,k,m,h⟩
   rw [d_spec_GramOf_L1_s] at h
   unfold d_spec_GramOf_L1_B at h
   refine wp_seq (wr (pN 2 k z fun a k=>sv k z (r_len (α:=Int) Al k underlying63 z z) fun a k=>pN 1 k z fun a k=>nn (cI h k z (fun Bt h=>?_) fun Bt h=>?_)))
   · refine wp_skip (nm_then ?_)
     refine c_cut (fun a w=>∃ (Ap:Int),K 33 [(1,v6),(2,.pointer (some (⟨Ae,0,none⟩:Addr))),(5,At),(6,I Ap),(7,I Ad)] a ∧ St [] w0 w [([Ae],Av),(Am,Aw)] ∧ d_spec_GramOf_J1 fu (d_spec_GramOf_L1 fu r1 Aj As Ay) Ad Ap = some r) ?_ ?_
     · rintro a Cd ⟨Ap,k,m,h⟩
       unfold d_spec_GramOf_J1 at h
       refine wp_region_lit (pN 3 k z fun a k=>nn ?_)
       exact ⟨Ap,w64 (Ad + 1),k.keep [1,2,5,6,7] z,m.sel [0,1] z (by decide),h⟩
     refine wp_block (c_cut (fun a w=>∃ (Aa:Item) (Aq:Nat) (Au:World),K 33 [(1,v6),(2,.pointer (some (⟨Ae,0,none⟩:Addr))),(5,At),(6,I Ai),(7,I Ad),(8,.pointer (some (⟨Aq,0,none⟩:Addr)))] a ∧ St [] w0 w [([Ae],Av),(Am,Aw),([Aq],Au)] ∧ bx Au Aq [I Aa.fId,I Aa.fW,I Aa.fH,I Aa.fD,I Aa.fGram,I Aa.fClass,I Aa.fCount] 158 ∧ d_spec_GramOf_J2 fu (d_spec_GramOf_L1 fu r1 Aj As Ay) Ai Ad Aa = some r) ?_ ?_)
     · rintro a Ce ⟨Aa,Aq,Au,k,m,Bg,h⟩
       unfold d_spec_GramOf_J2 at h
       refine wp_region_lit (pN 1 k z fun a k=>sv k z (r_fa fa158_4 k z z) fun a k=>sv k z (r_ldb t13 m 2 Bg 4 k z z z z z) fun a k=>pN 2 k z fun a k=>wpList_nil (nm_block (nm_then ?_)))
       exact ⟨w64 (Ai + Aa.fGram),k.keep [1,2,5,6,7] z,m.sel [0,1] z (by decide),h⟩
     refine d_go [] mixo m z fun Bk hMd=>?_
     have m:=hMd
     have s:=Ext.refl ([]:List Nat) Bk
     refine dN [1,2,3] 3 z k (by kernel_rfl) z s (fun _ _ _ _ _=>id) fun a k=>dt k 0 z (by kernel_rfl) z s (fun _ _ _=>id) (fun w s=>r_ldA ta38 (Az.at ((hMd.step s).a 0 z) 0 10 z z z) z k z z) fun a k=>oE h fun Cg Ax h=>dt k 4 z (by kernel_rfl) z s (fun _ _ _=>id) (fun w s=>r_ixa Al Ax k ts63 z z z) fun a k=>dt k 5 z (by kernel_rfl) z s (fun _ _ _=>id) (fun w s=>r_lde1 Al ((hMd.step s).a00 (Enc.rd_lt Al)) Ax 0 t13 k z z z z) fun a k=>d_two 6 10 (by kernel_rfl) z z ?_ ?_ 
     · refine oE h fun Ac Bu h=>cE k m call168 z z z (c_spec_l6Item fu _ _ _ (show rd _ _ [I r1.fWay,I r1.fPallet.fW,I r1.fPallet.fD,I r1.fPallet.fH,I r1.fPallet.fGram,I r1.fClasses,v9,Ar,I r1.fMaster,Ao] (r1:Request) from ⟨_,_,_,_,_,_,z,z,(Enc.rd_agr Ag (m.a00 (Enc.rd_lt Ag))),(Enc.rd_agr Af (m.a00 (Enc.rd_lt Af))),(Enc.rd_agr Ah (m.a00 (Enc.rd_lt Ah)))⟩) (Enc.rd_agr (Enc.ow_rd Ak) (m.a 1 z)) Bu) fun Cc e a k m=>?_
       have s:=s.trans e (by simp)
       refine wpList_nil ⟨s,?_⟩
       refine dN [7,8,9] 3 z k (by kernel_rfl) z s (fun _ _ _ _ _=>id) fun a k=>d_one 10 (by kernel_rfl) z (s_allocN (cs:=[I 0,I 0,I 0,I 0,I 0,I 0,I 0]) m k zeroValue158 z z z z z fun Bl Bv a k m e Bd Bf=>?_)
       have Br:=lo1 (Nat.le_trans s.size Bf)
       have s:=s.trans e (by simp)
       refine wpList_nil ⟨s,?_⟩
       refine d_one 11 (by kernel_rfl) z (s_stb (cs':=[I Ac.1.fId,I Ac.1.fW,I Ac.1.fH,I Ac.1.fD,I Ac.1.fGram,I Ac.1.fClass,I Ac.1.fCount]) sizeOf158 m 0 Bd 0 k z z z z z z z z z z z fun Bp a k e m Bb=>?_)
       have s:=s.trans e (fun y hy=>Or.inr (Br y hy))
       refine wpList_nil ⟨s,?_⟩
       refine dN [12] 1 z k (by kernel_rfl) z s (fun _ _ _ _ _=>id) fun a k=>d_done (by kernel_rfl) ((nm_then ?_))
       exact ⟨Ac.1,Bl,Bp,k.keep [1,2,5,6,7,8] z,m.sel [1,2,0] z (by decide),Bb,h⟩
     refine s_allocN (cs:=[I 0,I 0,I 0,I 0,I 0,I 0,I 0]) m k zeroValue158 z z z z z fun Bj Bx a k m e Bo Be=>?_
     have Bi:=lo1 (Nat.le_trans s.size Be)
     have s:=s.trans e (by simp)
     refine wpList_nil ⟨s,?_⟩
     refine d_one 6 (by kernel_rfl) z (oE h fun Ab Bm h=>cE k m call168 z z z (c_spec_l6Item fu _ _ _ (show rd _ _ [I r1.fWay,I r1.fPallet.fW,I r1.fPallet.fD,I r1.fPallet.fH,I r1.fPallet.fGram,I r1.fClasses,v9,Ar,I r1.fMaster,Ao] (r1:Request) from ⟨_,_,_,_,_,_,z,z,(Enc.rd_agr Ag (m.a00 (Enc.rd_lt Ag))),(Enc.rd_agr Af (m.a00 (Enc.rd_lt Af))),(Enc.rd_agr Ah (m.a00 (Enc.rd_lt Ah)))⟩) (Enc.rd_agr (Enc.ow_rd Ak) (m.a 2 z)) Bm) fun By e a k m=>?_)
     have s:=s.trans e (by simp)
     refine wpList_nil ⟨s,?_⟩
     refine dN [7,8,9] 3 z k (by kernel_rfl) z s (fun _ _ _ _ _=>id) fun a k=>d_one 11 (by kernel_rfl) z (s_stb (cs':=[I Ab.1.fId,I Ab.1.fW,I Ab.1.fH,I Ab.1.fD,I Ab.1.fGram,I Ab.1.fClass,I Ab.1.fCount]) sizeOf158 m 0 Bo 0 k z z z z z z z z z z z fun Bn a k e m Bh=>?_)
     have s:=s.trans e (fun y hy=>Or.inr (Bi y hy))
     refine wpList_nil ⟨s,?_⟩
     refine dN [12] 1 z k (by kernel_rfl) z s (fun _ _ _ _ _=>id) fun a k=>d_done (by kernel_rfl) ((nm_then ?_))
     exact ⟨Ab.1,Bj,Bn,k.keep [1,2,5,6,7,8] z,m.sel [1,2,0] z (by decide),Bh,h⟩
   refine wp_exit (ex_then (ex_then (ex_same (nm_then ?_))))
   refine wr (pN 2 k z fun a k=>nn (wp_ret (fS h k m z z)))
 exact ⟨0,0,k.keep [1,2,5,6,7] z,m.sel [1,0] z (by decide),h⟩
theorem c_spec_Gross (fu:Nat) {w0:World} (r1:Request) (x5:Carton) {Ao:List Value} {F3:List Nat} (Bc:rd w0 F3 Ao r1) {Al:List Value} {F7:List Nat} (Ay:rd w0 F7 Al x5) {r:Int}
    (h:d_spec_Gross fu r1 x5 = some r) :
    Calls Tryz.prog 269 #[.agg Ao.toArray,.agg Al.toArray] w0 fun e w=>e = .returned (I r) ∧ Ext [] w0 w:=by
 refine enter (vs:=[_,_]) func269 z ntmps269 z fun a k=>?_
 have m:=St.start w0
 obtain ⟨v9,Be,Ag,Bk,Af,Bi,rfl,rfl,Ad,Ab,Ac⟩:=Bc
 obtain ⟨Ar,_,rfl,rfl,Ai⟩:=Ay
 unfold d_spec_Gross at h
 refine wr (s_box (cs:=[I r1.fWay,I r1.fPallet.fW,I r1.fPallet.fD,I r1.fPallet.fH,I r1.fPallet.fGram,I r1.fClasses,v9,Ag,I r1.fMaster,Af]) m k z z z z z z fun Ak Au a k m e Ah=>s_box (cs:=[I x5.fType,I x5.fGroup,Ar]) m k z z z z z z fun Am Aq a k m e Aj=>pN 1 k z fun a k=>nn (wr (sv k z (r_ldB ta38 m 1 Ah 0 k z z z z z z) fun a k=>sv k z (r_fa fa83_0 k z z) fun a k=>sv k z (r_ldb t13 m 0 Aj 0 k z z z z z) fun a k=>oE h fun Aa Aw h=>?_)))
 refine cE k m call184 z z z (c_spec_TypeById fu _ _ (show rd _ _ [I r1.fWay,I r1.fPallet.fW,I r1.fPallet.fD,I r1.fPallet.fH,I r1.fPallet.fGram,I r1.fClasses,v9,Ag,I r1.fMaster,Af] (r1:Request) from ⟨_,_,_,_,_,_,z,z,(Enc.rd_agr Ad (m.a00 (Enc.rd_lt Ad))),(Enc.rd_agr Ab (m.a00 (Enc.rd_lt Ab))),(Enc.rd_agr Ac (m.a00 (Enc.rd_lt Ac)))⟩) Aw) fun Bf e a k m=>pN 3 k z fun a k=>s_alloc (cs:=[I 0,I 0,I 0,I 0,I 0,I 0,I 0]) m k zeroValue79 z z z z z fun Ap Bm a k m e Az=>?_
 refine s_stb (cs':=[I Aa.1.fId,I Aa.1.fW,I Aa.1.fH,I Aa.1.fD,I Aa.1.fTare,I Aa.1.fGram,I Aa.1.fCost]) sizeOf79 m 0 Az 0 k z z z z z z z z z z z fun Ax a k e m At=>pN 1 k z fun a k=>nn (c_cut (fun a w=>K 28 [(2,.pointer (some (⟨Ak,0,none⟩:Addr))),(3,.pointer (some (⟨Am,0,none⟩:Addr))),(5,.pointer (some (⟨Ap,0,none⟩:Addr)))] a ∧ St [] w0 w [([Ak],Au),([Am],Aq),([Ap],Ax)] ∧ d_spec_Gross_J1 fu r1 x5 Aa = some r) ?_ ?_)
 · rintro a Bh ⟨k,m,h⟩
   unfold d_spec_Gross_J1 at h
   refine wp_seq (d_go [] mixo m z fun Bb hMd=>?_)
   have m:=hMd
   have s:=Ext.refl ([]:List Nat) Bb
   refine dt k 0 z (by kernel_rfl) z s (fun _ _ _=>id) (fun w s=>r_fa fa79_4 k z z) fun a k=>dt k 1 z (by kernel_rfl) z s (fun _ _ _=>id) (fun w s=>r_ld1 t13 (r:=[]) (At.at ((hMd.step s).a 2 z) 4 1 z z z) k z z) fun a k=>dt k 2 z (by kernel_rfl) z s (fun _ _ _=>id) (fun w s=>r_ldA ta38 (Ah.at ((hMd.step s).a 0 z) 0 10 z z z) z k z z) fun a k=>dt k 3 z (by kernel_rfl) z s (fun _ _ _=>id) (fun w s=>r_fa fa83_2 k z z) fun a k=>dt k 4 z (by kernel_rfl) z s (fun _ _ _=>id) (fun w s=>r_ld1 t163 (r:=[]) (Aj.at ((hMd.step s).a 1 z) 2 1 z z z) k z z) fun a k=>d_one 5 (by kernel_rfl) z (oE h fun Bl Bd h=>?_)
   refine cE k m call302 z z z (c_spec_GramOf fu _ _ (show rd _ _ [I r1.fWay,I r1.fPallet.fW,I r1.fPallet.fD,I r1.fPallet.fH,I r1.fPallet.fGram,I r1.fClasses,v9,Ag,I r1.fMaster,Af] (r1:Request) from ⟨_,_,_,_,_,_,z,z,(Enc.rd_agr Ad (m.a00 (Enc.rd_lt Ad))),(Enc.rd_agr Ab (m.a00 (Enc.rd_lt Ab))),(Enc.rd_agr Ac (m.a00 (Enc.rd_lt Ac)))⟩) (Enc.rd_agr Ai (m.a00 (Enc.rd_lt Ai))) Bd) fun Bj e a k m=>?_
   have s:=s.trans e (by simp)
   refine wpList_nil ⟨s,?_⟩
   refine dN [6,7] 2 z k (by kernel_rfl) z s (fun _ _ _ _ _=>id) fun a k=>d_done (by kernel_rfl) ((nm_then ?_))
   refine wp_ret (fS h k m z z)
 refine wr (sv k z (r_ldB ta38 m 2 Ah 0 k z z z z z z) fun a k=>oE h fun Av Ba h=>cE k m call74 z z z (c_spec_Class fu _ (show rd _ _ [I r1.fWay,I r1.fPallet.fW,I r1.fPallet.fD,I r1.fPallet.fH,I r1.fPallet.fGram,I r1.fClasses,v9,Ag,I r1.fMaster,Af] (r1:Request) from ⟨_,_,_,_,_,_,z,z,(Enc.rd_agr Ad (m.a00 (Enc.rd_lt Ad))),(Enc.rd_agr Ab (m.a00 (Enc.rd_lt Ab))),(Enc.rd_agr Ac (m.a00 (Enc.rd_lt Ac)))⟩) Ba) fun Bg e a k m=>pN 2 k z fun a k=>bsplit (Av != 0) (fun Ae=>?_) (fun Ae=>?_))
 · have h:=bif_t Ae h
   refine rB k 17 z Ae fun k=>pN 3 k z fun a k=>nn (wp_cond_true (k.ev z) (wr (pN 1 k z fun a k=>nn (wp_ret (rt_then ?_)))))
   refine fS h k m z z
 have h:=bif_f Ae h
 refine rB k 17 z Ae fun k=>pN 3 k z fun a k=>nn (cI h k z (fun As h=>?_) fun As h=>?_)
 · refine wr (pN 1 k z fun a k=>nn (wp_ret (rt_then ?_)))
   refine fS h k m z z
 refine wp_skip (nm_then ?_)
 exact ⟨k.keep [2,3,5] z,m.sel [2,1,0] z (by decide),h⟩
theorem c_spec_BoxOf (fu:Nat) {w0:World} (r1:Request) (x5:Carton) {At:List Value} {F3:List Nat} (Bh:rd w0 F3 At r1) {Ar:List Value} {F7:List Nat} (Be:rd w0 F7 Ar x5) {r:Box}
    (h:d_spec_BoxOf fu r1 x5 = some r) :
    Calls Tryz.prog 214 #[.agg At.toArray,.agg Ar.toArray] w0 fun e w=>e = .returned (.agg (Flat.e r).toArray) ∧ Ext [] w0 w:=by
 refine enter (vs:=[_,_]) func214 z ntmps214 z fun a k=>?_
 have m:=St.start w0
 obtain ⟨v9,Bm,Ah,Bt,Ag,Bq,rfl,rfl,Ad,Ab,Ac⟩:=Bh
 obtain ⟨Al,_,rfl,rfl,Ao⟩:=Be
 unfold d_spec_BoxOf at h
 refine wr (s_box (cs:=[I r1.fWay,I r1.fPallet.fW,I r1.fPallet.fD,I r1.fPallet.fH,I r1.fPallet.fGram,I r1.fClasses,v9,Ah,I r1.fMaster,Ag]) m k z z z z z z fun Aq Az a k m e Ai=>s_box (cs:=[I x5.fType,I x5.fGroup,Al]) m k z z z z z z fun As Av a k m e Ap=>s_alloc (cs:=[I 0,I 0,I 0,I 0]) m k zeroValue86 z z z z z fun Af Bd a k m e Aj=>nn (wr (sv k z (r_ldB ta38 m 2 Ai 0 k z z z z z z) fun a k=>sv k z (r_fa fa83_0 k z z) fun a k=>sv k z (r_ldb t13 m 1 Ap 0 k z z z z z) fun a k=>oE h fun Aa Bi h=>?_)))
 refine cE k m call184 z z z (c_spec_TypeById fu _ _ (show rd _ _ [I r1.fWay,I r1.fPallet.fW,I r1.fPallet.fD,I r1.fPallet.fH,I r1.fPallet.fGram,I r1.fClasses,v9,Ah,I r1.fMaster,Ag] (r1:Request) from ⟨_,_,_,_,_,_,z,z,(Enc.rd_agr Ad (m.a00 (Enc.rd_lt Ad))),(Enc.rd_agr Ab (m.a00 (Enc.rd_lt Ab))),(Enc.rd_agr Ac (m.a00 (Enc.rd_lt Ac)))⟩) Bi) fun Bv e a k m=>pN 3 k z fun a k=>s_alloc (cs:=[I 0,I 0,I 0,I 0,I 0,I 0,I 0]) m k zeroValue79 z z z z z fun Am Bl a k m e Ax=>?_
 refine s_stb (cs':=[I Aa.1.fId,I Aa.1.fW,I Aa.1.fH,I Aa.1.fD,I Aa.1.fTare,I Aa.1.fGram,I Aa.1.fCost]) sizeOf79 m 0 Ax 0 k z z z z z z z z z z z fun Bj a k e m Ak=>pN 1 k z fun a k=>nn (c_cut (fun a w=>K 32 [(2,.pointer (some (⟨Aq,0,none⟩:Addr))),(3,.pointer (some (⟨As,0,none⟩:Addr))),(4,.pointer (some (⟨Af,0,none⟩:Addr))),(5,.pointer (some (⟨Am,0,none⟩:Addr)))] a ∧ St [] w0 w [([Aq],Az),([As],Av),([Af],Bd),([Am],Bj)] ∧ d_spec_BoxOf_J1 fu r1 x5 Aa = some r) ?_ ?_)
 · rintro a Br ⟨k,m,h⟩
   unfold d_spec_BoxOf_J1 at h
   refine wp_seq (d_go ([Af]) mixo m z fun Ba hMd=>?_)
   have m:=hMd
   have s:=Ext.refl (([Af]):List Nat) Ba
   refine dt k 0 z (by kernel_rfl) z s (fun _ _ _=>id) (fun w s=>r_fa fa79_1 k z z) fun a k=>dt k 1 z (by kernel_rfl) z s (fun _ _ _=>id) (fun w s=>r_ld1 t13 (r:=[]) (Ak.at (hMd.az 3 2 z z z s) 1 1 z z z) k z z) fun a k=>dt k 2 z (by kernel_rfl) z s (fun _ _ _=>id) (fun w s=>r_fa fa79_3 k z z) fun a k=>dt k 3 z (by kernel_rfl) z s (fun _ _ _=>id) (fun w s=>r_ld1 t13 (r:=[]) (Ak.at (hMd.az 3 2 z z z s) 3 1 z z z) k z z) fun a k=>dt k 4 z (by kernel_rfl) z s (fun _ _ _=>id) (fun w s=>r_fa fa79_2 k z z) fun a k=>dt k 5 z (by kernel_rfl) z s (fun _ _ _=>id) (fun w s=>r_ld1 t13 (r:=[]) (Ak.at (hMd.az 3 2 z z z s) 2 1 z z z) k z z) fun a k=>?_
   refine dt k 6 z (by kernel_rfl) z s (fun _ _ _=>id) (fun w s=>r_ldA ta38 (Ai.at (hMd.az 0 2 z z z s) 0 10 z z z) z k z z) fun a k=>dt k 7 z (by kernel_rfl) z s (fun _ _ _=>id) (fun w s=>r_ldA ta83 (Ap.at (hMd.az 1 2 z z z s) 0 3 z z z) z k z z) fun a k=>d_one 8 (by kernel_rfl) z (oE h fun Au Bg h=>?_)
   refine cE k m call269 z z z (c_spec_Gross fu _ _ (show rd _ _ [I r1.fWay,I r1.fPallet.fW,I r1.fPallet.fD,I r1.fPallet.fH,I r1.fPallet.fGram,I r1.fClasses,v9,Ah,I r1.fMaster,Ag] (r1:Request) from ⟨_,_,_,_,_,_,z,z,(Enc.rd_agr Ad (m.a00 (Enc.rd_lt Ad))),(Enc.rd_agr Ab (m.a00 (Enc.rd_lt Ab))),(Enc.rd_agr Ac (m.a00 (Enc.rd_lt Ac)))⟩) (show rd _ _ [I x5.fType,I x5.fGroup,Al] (x5:Carton) from ⟨_,_,z,z,(Enc.rd_agr Ao (m.a00 (Enc.rd_lt Ao)))⟩) Bg) fun Bs e a k m=>?_
   have s:=s.trans e (by simp)
   refine wpList_nil ⟨s,?_⟩
   refine dt k 9 z (by kernel_rfl) z s (fun _ _ _=>id) (fun w s=>r_build bt86 k (cs:=#[I Aa.1.fW,I Aa.1.fD,I Aa.1.fH,I Au]) (ps:=[(0,.tmp 23),(1,.tmp 25),(2,.tmp 27),(3,.tmp 30)]) z z (by kernel_rfl)) fun a k=>d_one 10 (by kernel_rfl) z (s_stb (cs':=[I Aa.1.fW,I Aa.1.fD,I Aa.1.fH,I Au]) sizeOf86 m 2 Aj 0 k z z z z z z z z z z z fun Bu a k e m Bb=>?_)
   have s:=s.trans e (fun y hy=>Or.inl hy)
   refine wpList_nil ⟨s,?_⟩
   refine d_done (by kernel_rfl) ((nm_then ?_))
   refine wp_ret ?_
   cases h
   exact finR1 k z (RV.cA k z ta86 (Bb.at (m.a 2 z) 0 4 z z z) z) ⟨z,m.ext⟩
 refine wr (sv k z (r_ldB ta38 m 3 Ai 0 k z z z z z z) fun a k=>oE h fun Bc Bf h=>cE k m call74 z z z (c_spec_Class fu _ (show rd _ _ [I r1.fWay,I r1.fPallet.fW,I r1.fPallet.fD,I r1.fPallet.fH,I r1.fPallet.fGram,I r1.fClasses,v9,Ah,I r1.fMaster,Ag] (r1:Request) from ⟨_,_,_,_,_,_,z,z,(Enc.rd_agr Ad (m.a00 (Enc.rd_lt Ad))),(Enc.rd_agr Ab (m.a00 (Enc.rd_lt Ab))),(Enc.rd_agr Ac (m.a00 (Enc.rd_lt Ac)))⟩) Bf) fun Bo e a k m=>pN 2 k z fun a k=>bsplit (Bc != 0) (fun Ae=>?_) (fun Ae=>?_))
 · have h:=bif_t Ae h
   refine rB k 17 z Ae fun k=>pN 3 k z fun a k=>nn (wp_cond_true (k.ev z) (wr (sv k z (r_build bt86 k (cs:=#[I 0,I 0,I 0,I 0]) (ps:=[]) z z (by kernel_rfl)) fun a k=>s_stb (cs':=[I 0,I 0,I 0,I 0]) sizeOf86 m 1 Aj 0 k z z z z z z z z z z z fun Bn a k e m Aw=>nn (wp_ret (rt_then ?_)))))
   cases h
   exact finR1 k z (RV.cA k z ta86 (Aw.at (m.a 1 z) 0 4 z z z) z) ⟨z,m.ext⟩
 have h:=bif_f Ae h
 refine rB k 17 z Ae fun k=>pN 3 k z fun a k=>nn (cI h k z (fun Bk h=>?_) fun Bk h=>?_)
 · refine wr (sv k z (r_build bt86 k (cs:=#[I 0,I 0,I 0,I 0]) (ps:=[]) z z (by kernel_rfl)) fun a k=>s_stb (cs':=[I 0,I 0,I 0,I 0]) sizeOf86 m 1 Aj 0 k z z z z z z z z z z z fun Bp a k e m Ay=>nn (wp_ret (rt_then ?_)))
   cases h
   exact finR1 k z (RV.cA k z ta86 (Ay.at (m.a 1 z) 0 4 z z z) z) ⟨z,m.ext⟩
 refine wp_skip (nm_then ?_)
 exact ⟨k.keep [2,3,4,5] z,m.sel [3,2,1,0] z (by decide),h⟩
theorem c_spec_l12Known (fu:Nat) {w0:World} (b1:Box) (Aa:Spot)  {r:Bool}
    (h:d_spec_l12Known fu b1 Aa = some r) :
    Calls Tryz.prog 268 #[.agg (Flat.e (b1)).toArray,.agg (Flat.e (Aa)).toArray] w0 fun e w=>e = .returned (.bool (r)) ∧ Ext [] w0 w:=by
 refine enter (vs:=[_,_]) func268 z ntmps268 z fun a k=>?_
 have m:=St.start w0
 unfold d_spec_l12Known at h
 refine wr (s_box (cs:=[I b1.fW,I b1.fD,I b1.fH,I b1.fGram]) m k z z z z z z fun b3 w5 a k m e Ag=>s_box (cs:=[I Aa.fPallet,I Aa.fX,I Aa.fY,I Aa.fZ]) m k z z z z z z fun b6 w9 a k m e Ah=>pN 1 k z fun a k=>nn (wr (sv k z (r_fa fa86_0 k z z) fun a k=>sv k z (r_ldb t13 m 1 Ag 0 k z z z z z) fun a k=>oE h fun Ao Am h=>cE k m call130 z z z (c_spec_l1In fu _ _ _  Am) fun Av e a k m=>pN 1 k z fun a k=>bsplit (Ao) (fun Af=>?_) (fun Af=>?_))))
 · have h:=bif_t Af h
   refine rB k 8 z Af fun k=>sv k z (r_fa fa86_1 k z z) fun a k=>sv k z (r_ldb t13 m 1 Ag 1 k z z z z z) fun a k=>oE h fun Ar Al h=>cE k m call130 z z z (c_spec_l1In fu _ _ _  Al) fun Ba e a k m=>pN 2 k z fun a k=>bsplit (Ar) (fun Ae=>?_) (fun Ae=>?_)
   · have h:=bif_t Ae h
     refine rB k 13 z Ae fun k=>sv k z (r_fa fa86_2 k z z) fun a k=>sv k z (r_ldb t13 m 1 Ag 2 k z z z z z) fun a k=>oE h fun Aq Ap h=>cE k m call130 z z z (c_spec_l1In fu _ _ _  Ap) fun Az e a k m=>pN 2 k z fun a k=>bsplit (Aq) (fun Ac=>?_) (fun Ac=>?_)
     · have h:=bif_t Ac h
       refine rB k 18 z Ac fun k=>sv k z (r_fa fa89_1 k z z) fun a k=>sv k z (r_ldb t13 m 0 Ah 1 k z z z z z) fun a k=>oE h fun Ai At h=>cE k m call130 z z z (c_spec_l1In fu _ _ _  At) fun Ax e a k m=>pN 2 k z fun a k=>bsplit (Ai) (fun Ad=>?_) (fun Ad=>?_)
       · have h:=bif_t Ad h
         refine rB k 23 z Ad fun k=>sv k z (r_fa fa89_2 k z z) fun a k=>sv k z (r_ldb t13 m 0 Ah 2 k z z z z z) fun a k=>oE h fun Aj Ak h=>cE k m call130 z z z (c_spec_l1In fu _ _ _  Ak) fun Ay e a k m=>pN 2 k z fun a k=>bsplit (Aj) (fun Ab=>?_) (fun Ab=>?_)
         · have h:=bif_t Ab h
           refine rB k 28 z Ab fun k=>sv k z (r_fa fa89_3 k z z) fun a k=>sv k z (r_ldb t13 m 0 Ah 3 k z z z z z) fun a k=>oE h fun Au As h=>cE k m call130 z z z (c_spec_l1In fu _ _ _  As) fun Aw e a k m=>pN 2 k z fun a k=>?_
           have k:=k.keep [4] z
           refine nn (wp_ret (fS h k m z z))
         have h:=bif_f Ab h
         refine rB k 28 z Ab fun k=>pN 5 k z fun a k=>?_
         have k:=k.keep [4] z
         refine nn (wp_ret (fS h k m z z))
       have h:=bif_f Ad h
       refine rB k 23 z Ad fun k=>pN 10 k z fun a k=>?_
       have k:=k.keep [4] z
       refine nn (wp_ret (fS h k m z z))
     have h:=bif_f Ac h
     refine rB k 18 z Ac fun k=>pN 15 k z fun a k=>?_
     have k:=k.keep [4] z
     refine nn (wp_ret (fS h k m z z))
   have h:=bif_f Ae h
   refine rB k 13 z Ae fun k=>pN 20 k z fun a k=>?_
   have k:=k.keep [4] z
   refine nn (wp_ret (fS h k m z z))
 have h:=bif_f Af h
 refine rB k 8 z Af fun k=>pN 25 k z fun a k=>?_
 have k:=k.keep [4] z
 refine nn (wp_ret (fS h k m z z))
theorem c_spec_Within (fu:Nat) {w0:World} (p1:Pallet) (b2:Box) (Aa:Spot)  {r:Bool}
    (h:d_spec_Within fu p1 b2 Aa = some r) :
    Calls Tryz.prog 213 #[.agg (Flat.e (p1)).toArray,.agg (Flat.e (b2)).toArray,.agg (Flat.e (Aa)).toArray] w0 fun e w=>e = .returned (.bool (r)) ∧ Ext [] w0 w:=by
 refine enter (vs:=[_,_,_]) func213 z ntmps213 z fun a k=>?_
 have m:=St.start w0
 unfold d_spec_Within at h
 refine wr (s_box (cs:=[I p1.fW,I p1.fD,I p1.fH,I p1.fGram]) m k z z z z z z fun b4 w6 a k m e Aj=>s_box (cs:=[I b2.fW,I b2.fD,I b2.fH,I b2.fGram]) m k z z z z z z fun b7 w9 a k m e Ab=>s_box (cs:=[I Aa.fPallet,I Aa.fX,I Aa.fY,I Aa.fZ]) m k z z z z z z fun Am Ao a k m e Ai=>pN 1 k z fun a k=>nn (wr (sv k z (r_ldB ta86 m 1 Ab 0 k z z z z z z) fun a k=>sv k z (r_ldB ta89 m 0 Ai 0 k z z z z z z) fun a k=>oE h fun Ak Al h=>cE k m call268 z z z (c_spec_l12Known fu (b2:Box) (Aa:Spot)  Al) fun Ap e a k m=>pN 1 k z fun a k=>bsplit (Ak) (fun Ag=>?_) (fun Ag=>?_))))
 · have h:=bif_t Ag h
   refine rB k 10 z Ag fun k=>sv k z (r_fa fa86_0 k z z) fun a k=>sv k z (r_ldb t13 m 1 Ab 0 k z z z z z) fun a k=>pN 3 k z fun a k=>bsplit (decide (b2.fW > 0)) (fun Ac=>?_) (fun Ac=>?_)
   · have h:=bif_t Ac h
     refine rB k 15 z Ac fun k=>sv k z (r_fa fa86_1 k z z) fun a k=>sv k z (r_ldb t13 m 1 Ab 1 k z z z z z) fun a k=>pN 3 k z fun a k=>bsplit (decide (b2.fD > 0)) (fun Ad=>?_) (fun Ad=>?_)
     · have h:=bif_t Ad h
       refine rB k 20 z Ad fun k=>sv k z (r_fa fa86_2 k z z) fun a k=>sv k z (r_ldb t13 m 1 Ab 2 k z z z z z) fun a k=>pN 3 k z fun a k=>bsplit (decide (b2.fH > 0)) (fun Ae=>?_) (fun Ae=>?_)
       · have h:=bif_t Ae h
         refine rB k 25 z Ae fun k=>sv k z (r_fa fa89_1 k z z) fun a k=>sv k z (r_ldb t13 m 0 Ai 1 k z z z z z) fun a k=>sv k z (r_fa fa86_0 k z z) fun a k=>sv k z (r_ldb t13 m 1 Ab 0 k z z z z z) fun a k=>pN 1 k z fun a k=>sv k z (r_fa fa33_0 k z z) fun a k=>sv k z (r_ldb t13 m 2 Aj 0 k z z z z z) fun a k=>pN 3 k z fun a k=>bsplit (decide ((w64 (Aa.fX + b2.fW)) ≤ p1.fW)) (fun Af=>?_) (fun Af=>?_)
         · have h:=bif_t Af h
           refine rB k 35 z Af fun k=>sv k z (r_fa fa89_2 k z z) fun a k=>sv k z (r_ldb t13 m 0 Ai 2 k z z z z z) fun a k=>sv k z (r_fa fa86_1 k z z) fun a k=>sv k z (r_ldb t13 m 1 Ab 1 k z z z z z) fun a k=>pN 1 k z fun a k=>sv k z (r_fa fa33_1 k z z) fun a k=>sv k z (r_ldb t13 m 2 Aj 1 k z z z z z) fun a k=>pN 3 k z fun a k=>bsplit (decide ((w64 (Aa.fY + b2.fD)) ≤ p1.fD)) (fun Ah=>?_) (fun Ah=>?_)
           · have h:=bif_t Ah h
             refine rB k 45 z Ah fun k=>sv k z (r_fa fa89_3 k z z) fun a k=>sv k z (r_ldb t13 m 0 Ai 3 k z z z z z) fun a k=>sv k z (r_fa fa86_2 k z z) fun a k=>sv k z (r_ldb t13 m 1 Ab 2 k z z z z z) fun a k=>pN 1 k z fun a k=>sv k z (r_fa fa33_2 k z z) fun a k=>sv k z (r_ldb t13 m 2 Aj 2 k z z z z z) fun a k=>pN 3 k z fun a k=>?_
             have k:=k.keep [6] z
             refine nn (wp_ret (fS h k m z z))
           have h:=bif_f Ah h
           refine rB k 45 z Ah fun k=>pN 10 k z fun a k=>?_
           have k:=k.keep [6] z
           refine nn (wp_ret (fS h k m z z))
         have h:=bif_f Af h
         refine rB k 35 z Af fun k=>pN 20 k z fun a k=>?_
         have k:=k.keep [6] z
         refine nn (wp_ret (fS h k m z z))
       have h:=bif_f Ae h
       refine rB k 25 z Ae fun k=>pN 30 k z fun a k=>?_
       have k:=k.keep [6] z
       refine nn (wp_ret (fS h k m z z))
     have h:=bif_f Ad h
     refine rB k 20 z Ad fun k=>pN 35 k z fun a k=>?_
     have k:=k.keep [6] z
     refine nn (wp_ret (fS h k m z z))
   have h:=bif_f Ac h
   refine rB k 15 z Ac fun k=>pN 40 k z fun a k=>?_
   have k:=k.keep [6] z
   refine nn (wp_ret (fS h k m z z))
 have h:=bif_f Ag h
 refine rB k 10 z Ag fun k=>pN 45 k z fun a k=>?_
 have k:=k.keep [6] z
 refine nn (wp_ret (fS h k m z z))
theorem c_spec_l15Inside (fu:Nat) {w0:World} (r1:Request) (x5:Plan) {Al:List Value} {F3:List Nat} (Bj:rd w0 F3 Al r1) {Aj:List Value} {F7:List Nat} (Bb:rd w0 F7 Aj x5) {r:Bool}
    (h:d_spec_l15Inside fu r1 x5 = some r) :
    Calls Tryz.prog 110 #[.agg Al.toArray,.agg Aj.toArray] w0 fun e w=>e = .returned (.bool (r)) ∧ Ext [] w0 w:=by
 refine enter (vs:=[_,_]) func110 z ntmps110 z fun a k=>?_
 have m:=St.start w0
 obtain ⟨v9,Bm,As,Bu,Ap,Br,rfl,rfl,Ar,Ah,Ak⟩:=Bj
 obtain ⟨Aw,Bq,Ba,Bn,rfl,rfl,Aa,Ad⟩:=Bb
 unfold d_spec_l15Inside at h
 refine wr (s_box (cs:=[I r1.fWay,I r1.fPallet.fW,I r1.fPallet.fD,I r1.fPallet.fH,I r1.fPallet.fGram,I r1.fClasses,v9,As,I r1.fMaster,Ap]) m k z z z z z z fun Af At a k m e Ao=>s_box (cs:=[Aw,Ba]) m k z z z z z z fun Am Au a k m e Ac=>pN 1 k z fun a k=>nn (wp_seq (wr (pN 1 k z fun a k=>nn (wp_block (c_loop (fun n a w=>∃ (Ab:Int),K 29 [(2,.pointer (some (⟨Af,0,none⟩:Addr))),(3,.pointer (some (⟨Am,0,none⟩:Addr))),(5,I Ab)] a ∧ St [] w0 w [([Af],At),([Am],Au)] ∧ d_spec_l15Inside_L1 fu r1 x5 n Ab = some r) ?_ ?_ fu _ _ ?_))))))
 · rintro a w ⟨_,_,_,h⟩
   exact nS h
 · rintro Bk a Bo ⟨Ab,k,m,h⟩
   rw [d_spec_l15Inside_L1_s] at h
   unfold d_spec_l15Inside_L1_B at h
   refine wp_seq (wr (pN 1 k z fun a k=>sv k z (r_fa fa58_0 k z z) fun a k=>sv k z (r_ldb t155 m 1 Ac 0 k z z z z z) fun a k=>sv k z (r_len (α:=Carton) Aa k underlying55 z z) fun a k=>pN 1 k z fun a k=>nn (cI h k z (fun Bh h=>?_) fun Bh h=>?_)))
   · refine wp_skip (nm_then ?_)
     refine wp_seq (wp_block (wp_seq (d_go [] mixo m z fun Ax hMd=>?_)))
     have m:=hMd
     have s:=Ext.refl ([]:List Nat) Ax
     refine dN [5,11] 2 z k (by kernel_rfl) z s (fun _ _ _ _ _=>id) fun a k=>dt k 0 z (by kernel_rfl) z s (fun _ _ _=>id) (fun w s=>r_fa fa38_1 k z z) fun a k=>dt k 1 z (by kernel_rfl) z s (fun _ _ _=>id) (fun w s=>r_ldA ta33 (Ao.at ((hMd.step s).a 0 z) 1 4 z z z) z k z z) fun a k=>dt k 2 z (by kernel_rfl) z s (fun _ _ _=>id) (fun w s=>r_ldA ta38 (Ao.at ((hMd.step s).a 0 z) 0 10 z z z) z k z z) fun a k=>dt k 3 z (by kernel_rfl) z s (fun _ _ _=>id) (fun w s=>r_fa fa58_0 k z z) fun a k=>dt k 4 z (by kernel_rfl) z s (fun _ _ _=>id) (fun w s=>r_ld1 t155 (r:=[]) (Ac.at ((hMd.step s).a 1 z) 0 1 z z z) k z z) fun a k=>oE h fun Ae Aq h=>?_
     refine dt k 6 z (by kernel_rfl) z s (fun _ _ _=>id) (fun w s=>r_ixa Aa Aq k ts55 z z z) fun a k=>?_
     obtain ⟨Bt,Bs,Bl,Be,Bc,Bd⟩:=rd_get Aa (ix_some Aq).2.2
     obtain ⟨Bi,_,rfl,rfl,Ai⟩:=Be
     refine dt k 7 z (by kernel_rfl) z s (fun _ _ _=>id) (fun w s=>r_ldA ta83 (Bc.agr ((hMd.step s).a00 (Enc.rd_lt Aa)) Bd) z k z z) fun a k=>dt k 9 z (by kernel_rfl) z s (fun _ _ _=>id) (fun w s=>r_fa fa58_1 k z z) fun a k=>dt k 10 z (by kernel_rfl) z s (fun _ _ _=>id) (fun w s=>r_ld1 t156 (r:=[]) (Ac.at ((hMd.step s).a 1 z) 1 1 z z z) k z z) fun a k=>oE h fun Av Ag h=>dt k 12 z (by kernel_rfl) z s (fun _ _ _=>id) (fun w s=>r_ixa Ad Ag k ts56 z z z) fun a k=>dt k 13 z (by kernel_rfl) z s (fun _ _ _=>id) (fun w s=>r_lde Ad ((hMd.step s).a00 (Enc.rd_lt Ad)) Ag ta89 k z z) fun a k=>d_one 8 (by kernel_rfl) z (oE h fun Bg Ay h=>?_)
     refine cE k m call214 z z z (c_spec_BoxOf fu _ _ (show rd _ _ [I r1.fWay,I r1.fPallet.fW,I r1.fPallet.fD,I r1.fPallet.fH,I r1.fPallet.fGram,I r1.fClasses,v9,As,I r1.fMaster,Ap] (r1:Request) from ⟨_,_,_,_,_,_,z,z,(Enc.rd_agr Ar (m.a00 (Enc.rd_lt Ar))),(Enc.rd_agr Ah (m.a00 (Enc.rd_lt Ah))),(Enc.rd_agr Ak (m.a00 (Enc.rd_lt Ak)))⟩) (show rd _ _ [I Ae.fType,I Ae.fGroup,Bi] (Ae:Carton) from ⟨_,_,z,z,(Enc.rd_agr Ai (m.a00 (Enc.rd_lt Ai)))⟩) Ay) fun Bp e a k m=>?_
     have s:=s.trans e (by simp)
     refine wpList_nil ⟨s,?_⟩
     refine d_one 14 (by kernel_rfl) z (oE h fun Bv Az h=>cE k m call213 z z z (c_spec_Within fu (r1.fPallet:Pallet) (Bg:Box) (Av:Spot)  Az) fun Bw e a k m=>?_)
     have s:=s.trans e (by simp)
     refine wpList_nil ⟨s,?_⟩
     refine dN [15] 1 z k (by kernel_rfl) z s (fun _ _ _ _ _=>id) fun a k=>d_done (by kernel_rfl) ((nm_then ?_))
     refine cI h k z (fun Bf h=>?_) fun Bf h=>?_
     · refine wr (pN 1 k z fun a k=>nn (wp_ret (rt_block (rt_then (rt_then (rt_block (rt_then ?_)))))))
       refine fS h k m z z
     refine wp_skip (nm_block (nm_then ?_))
     refine wp_region_lit (pN 3 k z fun a k=>nn ?_)
     exact ⟨w64 (Ab + 1),k.keep [2,3,5] z,m.sel [0,1] z (by decide),h⟩
   refine wp_exit (ex_then (ex_then (ex_same (nm_then ?_))))
   refine wr (pN 1 k z fun a k=>nn (wp_ret (fS h k m z z)))
 exact ⟨0,k.keep [2,3,5] z,m.sel [1,0] z (by decide),h⟩
theorem c_spec_l12Cross (fu:Nat) {w0:World} (a1:Int) (Ac:Int) (b3:Int) (Ab:Int)  {r:Bool}
    (h:d_spec_l12Cross fu a1 Ac b3 Ab = some r) :
    Calls Tryz.prog 270 #[I a1,I Ac,I b3,I Ab] w0 fun e w=>e = .returned (.bool (r)) ∧ Ext [] w0 w:=by
 refine enter (vs:=[_,_,_,_]) func270 z ntmps270 z fun a k=>?_
 have m:=St.start w0
 unfold d_spec_l12Cross at h
 refine wr (pN 1 k z fun a k=>nn (wr (pN 6 k z fun a k=>bsplit (decide (a1 < (w64 (b3 + Ab)))) (fun Aa=>?_) (fun Aa=>?_))))
 · have h:=bif_t Aa h
   refine rB k 14 z Aa fun k=>pN 7 k z fun a k=>nn (wp_ret (fS h k m z z))
 have h:=bif_f Aa h
 refine rB k 14 z Aa fun k=>pN 7 k z fun a k=>nn (wp_ret (fS h k m z z))
theorem c_spec_Overlap (fu:Nat) {w0:World} (a1:Box) (Aa:Spot) (b3:Box) (t4:Spot)  {r:Bool}
    (h:d_spec_Overlap fu a1 Aa b3 t4 = some r) :
    Calls Tryz.prog 215 #[.agg (Flat.e (a1)).toArray,.agg (Flat.e (Aa)).toArray,.agg (Flat.e (b3)).toArray,.agg (Flat.e (t4)).toArray] w0 fun e w=>e = .returned (.bool (r)) ∧ Ext [] w0 w:=by
 refine enter (vs:=[_,_,_,_]) func215 z ntmps215 z fun a k=>?_
 have m:=St.start w0
 unfold d_spec_Overlap at h
 refine wr (s_box (cs:=[I a1.fW,I a1.fD,I a1.fH,I a1.fGram]) m k z z z z z z fun b5 w7 a k m e Ai=>s_box (cs:=[I Aa.fPallet,I Aa.fX,I Aa.fY,I Aa.fZ]) m k z z z z z z fun b8 Bd a k m e Ag=>s_box (cs:=[I b3.fW,I b3.fD,I b3.fH,I b3.fGram]) m k z z z z z z fun Ax Av a k m e Aj=>s_box (cs:=[I t4.fPallet,I t4.fX,I t4.fY,I t4.fZ]) m k z z z z z z fun Ba Bb a k m e Ae=>pN 1 k z fun a k=>nn (wr (sv k z (r_ldB ta86 m 3 Ai 0 k z z z z z z) fun a k=>sv k z (r_ldB ta89 m 2 Ag 0 k z z z z z z) fun a k=>oE h fun Ar As h=>?_)))
 refine cE k m call268 z z z (c_spec_l12Known fu (a1:Box) (Aa:Spot)  As) fun Bc e a k m=>pN 1 k z fun a k=>bsplit (Ar) (fun Ad=>?_) (fun Ad=>?_)
 · have h:=bif_t Ad h
   refine rB k 12 z Ad fun k=>sv k z (r_ldB ta86 m 1 Aj 0 k z z z z z z) fun a k=>sv k z (r_ldB ta89 m 0 Ae 0 k z z z z z z) fun a k=>oE h fun Ao Aq h=>cE k m call268 z z z (c_spec_l12Known fu (b3:Box) (t4:Spot)  Aq) fun Au e a k m=>pN 2 k z fun a k=>bsplit (Ao) (fun Ac=>?_) (fun Ac=>?_)
   · have h:=bif_t Ac h
     refine rB k 17 z Ac fun k=>sv k z (r_fa fa89_0 k z z) fun a k=>sv k z (r_ldb t13 m 2 Ag 0 k z z z z z) fun a k=>sv k z (r_fa fa89_0 k z z) fun a k=>sv k z (r_ldb t13 m 0 Ae 0 k z z z z z) fun a k=>pN 3 k z fun a k=>bsplit (Aa.fPallet == t4.fPallet) (fun Af=>?_) (fun Af=>?_)
     · have h:=bif_t Af h
       refine rB k 24 z Af fun k=>sv k z (r_fa fa89_1 k z z) fun a k=>sv k z (r_ldb t13 m 2 Ag 1 k z z z z z) fun a k=>sv k z (r_fa fa86_0 k z z) fun a k=>sv k z (r_ldb t13 m 3 Ai 0 k z z z z z) fun a k=>sv k z (r_fa fa89_1 k z z) fun a k=>sv k z (r_ldb t13 m 0 Ae 1 k z z z z z) fun a k=>sv k z (r_fa fa86_0 k z z) fun a k=>sv k z (r_ldb t13 m 1 Aj 0 k z z z z z) fun a k=>oE h fun At Am h=>cE k m call270 z z z (c_spec_l12Cross fu _ _ _ _  Am) fun Aw e a k m=>pN 2 k z fun a k=>bsplit (At) (fun Ab=>?_) (fun Ab=>?_)
       · have h:=bif_t Ab h
         refine rB k 35 z Ab fun k=>sv k z (r_fa fa89_2 k z z) fun a k=>sv k z (r_ldb t13 m 2 Ag 2 k z z z z z) fun a k=>sv k z (r_fa fa86_1 k z z) fun a k=>sv k z (r_ldb t13 m 3 Ai 1 k z z z z z) fun a k=>sv k z (r_fa fa89_2 k z z) fun a k=>sv k z (r_ldb t13 m 0 Ae 2 k z z z z z) fun a k=>sv k z (r_fa fa86_1 k z z) fun a k=>sv k z (r_ldb t13 m 1 Aj 1 k z z z z z) fun a k=>oE h fun Al Ak h=>cE k m call270 z z z (c_spec_l12Cross fu _ _ _ _  Ak) fun Be e a k m=>pN 2 k z fun a k=>bsplit (Al) (fun Ah=>?_) (fun Ah=>?_)
         · have h:=bif_t Ah h
           refine rB k 46 z Ah fun k=>sv k z (r_fa fa89_3 k z z) fun a k=>sv k z (r_ldb t13 m 2 Ag 3 k z z z z z) fun a k=>sv k z (r_fa fa86_2 k z z) fun a k=>sv k z (r_ldb t13 m 3 Ai 2 k z z z z z) fun a k=>sv k z (r_fa fa89_3 k z z) fun a k=>sv k z (r_ldb t13 m 0 Ae 3 k z z z z z) fun a k=>sv k z (r_fa fa86_2 k z z) fun a k=>sv k z (r_ldb t13 m 1 Aj 2 k z z z z z) fun a k=>oE h fun Ay Ap h=>cE k m call270 z z z (c_spec_l12Cross fu _ _ _ _  Ap) fun Az e a k m=>pN 2 k z fun a k=>?_
           have k:=k.keep [8] z
           refine nn (wp_ret (fS h k m z z))
         have h:=bif_f Ah h
         refine rB k 46 z Ah fun k=>pN 11 k z fun a k=>?_
         have k:=k.keep [8] z
         refine nn (wp_ret (fS h k m z z))
       have h:=bif_f Ab h
       refine rB k 35 z Ab fun k=>pN 22 k z fun a k=>?_
       have k:=k.keep [8] z
       refine nn (wp_ret (fS h k m z z))
     have h:=bif_f Af h
     refine rB k 24 z Af fun k=>pN 33 k z fun a k=>?_
     have k:=k.keep [8] z
     refine nn (wp_ret (fS h k m z z))
   have h:=bif_f Ac h
   refine rB k 17 z Ac fun k=>pN 40 k z fun a k=>?_
   have k:=k.keep [8] z
   refine nn (wp_ret (fS h k m z z))
 have h:=bif_f Ad h
 refine rB k 12 z Ad fun k=>pN 45 k z fun a k=>?_
 have k:=k.keep [8] z
 refine nn (wp_ret (fS h k m z z))
theorem c_spec_l15Apart (fu:Nat) {w0:World} (r1:Request) (x5:Plan) {Ax:List Value} {F3:List Nat} (Bv:rd w0 F3 Ax r1) {Aw:List Value} {F7:List Nat} (Bl:rd w0 F7 Aw x5) {r:Bool}
    (h:d_spec_l15Apart fu r1 x5 = some r) :
    Calls Tryz.prog 111 #[.agg Ax.toArray,.agg Aw.toArray] w0 fun e w=>e = .returned (.bool (r)) ∧ Ext [] w0 w:=by
 refine enter (vs:=[_,_]) func111 z ntmps111 z fun a k=>?_
 have m:=St.start w0
 obtain ⟨v9,Ca,Al,Ck,Am,Ce,rfl,rfl,Ag,Af,Ah⟩:=Bv
 obtain ⟨Bf,Cd,Bk,Cb,rfl,rfl,Aa,Ab⟩:=Bl
 unfold d_spec_l15Apart at h
 refine wr (s_box (cs:=[I r1.fWay,I r1.fPallet.fW,I r1.fPallet.fD,I r1.fPallet.fH,I r1.fPallet.fGram,I r1.fClasses,v9,Al,I r1.fMaster,Am]) m k z z z z z z fun Ae Aq a k m e Ay=>s_box (cs:=[Bf,Bk]) m k z z z z z z fun Aj Ar a k m e Ad=>pN 1 k z fun a k=>nn (wp_seq (wr (pN 1 k z fun a k=>nn (wp_block (c_loop (fun n a w=>∃ (Ac:Int),K 44 [(2,.pointer (some (⟨Ae,0,none⟩:Addr))),(3,.pointer (some (⟨Aj,0,none⟩:Addr))),(5,I Ac)] a ∧ St [] w0 w [([Ae],Aq),([Aj],Ar)] ∧ d_spec_l15Apart_L2 fu r1 x5 n Ac = some r) ?_ ?_ fu _ _ ?_))))))
 · rintro a w ⟨_,_,_,h⟩
   exact nS h
 · rintro Bm a Cl ⟨Ac,k,m,h⟩
   rw [d_spec_l15Apart_L2_s] at h
   unfold d_spec_l15Apart_L2_B at h
   refine wp_seq (wr (pN 1 k z fun a k=>sv k z (r_fa fa58_0 k z z) fun a k=>sv k z (r_ldb t155 m 1 Ad 0 k z z z z z) fun a k=>sv k z (r_len (α:=Carton) Aa k underlying55 z z) fun a k=>pN 1 k z fun a k=>nn (cI h k z (fun Bd h=>?_) fun Bd h=>?_)))
   · refine wp_skip (nm_then ?_)
     refine wp_seq (wp_block (wr (pN 1 k z fun a k=>nn (wp_block (c_loop (fun n a w=>∃ (Ai:Int),K 44 [(2,.pointer (some (⟨Ae,0,none⟩:Addr))),(3,.pointer (some (⟨Aj,0,none⟩:Addr))),(5,I Ac),(6,I Ai)] a ∧ St [] w0 w [([Ae],Aq),([Aj],Ar)] ∧ d_spec_l15Apart_L1 fu (d_spec_l15Apart_L2 fu r1 x5 Bm) r1 x5 Ac n Ai = some r) ?_ ?_ fu _ _ ?_)))))
     · rintro a w ⟨_,_,_,h⟩
       exact nS h
     · rintro Cc a Cm ⟨Ai,k,m,h⟩
       rw [d_spec_l15Apart_L1_s] at h
       unfold d_spec_l15Apart_L1_B at h
       refine wp_seq (wr (pN 3 k z fun a k=>nn (cI h k z (fun Ba h=>?_) fun Ba h=>?_)))
       · refine wp_skip (nm_then ?_)
         refine wp_seq (wp_block (wp_seq (d_go [] mixo m z fun Be hMd=>?_)))
         have m:=hMd
         have s:=Ext.refl ([]:List Nat) Be
         refine dN [3,9,15,21] 4 z k (by kernel_rfl) z s (fun _ _ _ _ _=>id) fun a k=>dt k 0 z (by kernel_rfl) z s (fun _ _ _=>id) (fun w s=>r_ldA ta38 (Ay.at ((hMd.step s).a 0 z) 0 10 z z z) z k z z) fun a k=>dt k 1 z (by kernel_rfl) z s (fun _ _ _=>id) (fun w s=>r_fa fa58_0 k z z) fun a k=>dt k 2 z (by kernel_rfl) z s (fun _ _ _=>id) (fun w s=>r_ld1 t155 (r:=[]) (Ad.at ((hMd.step s).a 1 z) 0 1 z z z) k z z) fun a k=>oE h fun Ak Az h=>dt k 4 z (by kernel_rfl) z s (fun _ _ _=>id) (fun w s=>r_ixa Aa Az k ts55 z z z) fun a k=>?_
         obtain ⟨Cg,Bz,Ci,Bg,Bc,Bt⟩:=rd_get Aa (ix_some Az).2.2
         obtain ⟨Bn,_,rfl,rfl,Au⟩:=Bg
         refine dt k 5 z (by kernel_rfl) z s (fun _ _ _=>id) (fun w s=>r_ldA ta83 (Bc.agr ((hMd.step s).a00 (Enc.rd_lt Aa)) Bt) z k z z) fun a k=>dt k 7 z (by kernel_rfl) z s (fun _ _ _=>id) (fun w s=>r_fa fa58_1 k z z) fun a k=>dt k 8 z (by kernel_rfl) z s (fun _ _ _=>id) (fun w s=>r_ld1 t156 (r:=[]) (Ad.at ((hMd.step s).a 1 z) 1 1 z z z) k z z) fun a k=>oE h fun Bi Ap h=>dt k 10 z (by kernel_rfl) z s (fun _ _ _=>id) (fun w s=>r_ixa Ab Ap k ts56 z z z) fun a k=>dt k 11 z (by kernel_rfl) z s (fun _ _ _=>id) (fun w s=>r_lde Ab ((hMd.step s).a00 (Enc.rd_lt Ab)) Ap ta89 k z z) fun a k=>dt k 12 z (by kernel_rfl) z s (fun _ _ _=>id) (fun w s=>r_ldA ta38 (Ay.at ((hMd.step s).a 0 z) 0 10 z z z) z k z z) fun a k=>?_
         refine dt k 13 z (by kernel_rfl) z s (fun _ _ _=>id) (fun w s=>r_fa fa58_0 k z z) fun a k=>dt k 14 z (by kernel_rfl) z s (fun _ _ _=>id) (fun w s=>r_ld1 t155 (r:=[]) (Ad.at ((hMd.step s).a 1 z) 0 1 z z z) k z z) fun a k=>oE h fun Ao At h=>dt k 16 z (by kernel_rfl) z s (fun _ _ _=>id) (fun w s=>r_ixa Aa At k ts55 z z z) fun a k=>?_
         obtain ⟨Cn,Co,Ch,Bq,Bo,Bu⟩:=rd_get Aa (ix_some At).2.2
         obtain ⟨Br,_,rfl,rfl,Av⟩:=Bq
         refine dt k 17 z (by kernel_rfl) z s (fun _ _ _=>id) (fun w s=>r_ldA ta83 (Bo.agr ((hMd.step s).a00 (Enc.rd_lt Aa)) Bu) z k z z) fun a k=>dt k 19 z (by kernel_rfl) z s (fun _ _ _=>id) (fun w s=>r_fa fa58_1 k z z) fun a k=>dt k 20 z (by kernel_rfl) z s (fun _ _ _=>id) (fun w s=>r_ld1 t156 (r:=[]) (Ad.at ((hMd.step s).a 1 z) 1 1 z z z) k z z) fun a k=>oE h fun Bx As h=>dt k 22 z (by kernel_rfl) z s (fun _ _ _=>id) (fun w s=>r_ixa Ab As k ts56 z z z) fun a k=>dt k 23 z (by kernel_rfl) z s (fun _ _ _=>id) (fun w s=>r_lde Ab ((hMd.step s).a00 (Enc.rd_lt Ab)) As ta89 k z z) fun a k=>d_one 6 (by kernel_rfl) z (oE h fun Bw Bh h=>?_)
         refine cE k m call214 z z z (c_spec_BoxOf fu _ _ (show rd _ _ [I r1.fWay,I r1.fPallet.fW,I r1.fPallet.fD,I r1.fPallet.fH,I r1.fPallet.fGram,I r1.fClasses,v9,Al,I r1.fMaster,Am] (r1:Request) from ⟨_,_,_,_,_,_,z,z,(Enc.rd_agr Ag (m.a00 (Enc.rd_lt Ag))),(Enc.rd_agr Af (m.a00 (Enc.rd_lt Af))),(Enc.rd_agr Ah (m.a00 (Enc.rd_lt Ah)))⟩) (show rd _ _ [I Ak.fType,I Ak.fGroup,Bn] (Ak:Carton) from ⟨_,_,z,z,(Enc.rd_agr Au (m.a00 (Enc.rd_lt Au)))⟩) Bh) fun Cp e a k m=>?_
         have s:=s.trans e (by simp)
         refine wpList_nil ⟨s,?_⟩
         refine d_one 18 (by kernel_rfl) z (oE h fun Bs Bp h=>cE k m call214 z z z (c_spec_BoxOf fu _ _ (show rd _ _ [I r1.fWay,I r1.fPallet.fW,I r1.fPallet.fD,I r1.fPallet.fH,I r1.fPallet.fGram,I r1.fClasses,v9,Al,I r1.fMaster,Am] (r1:Request) from ⟨_,_,_,_,_,_,z,z,(Enc.rd_agr Ag (m.a00 (Enc.rd_lt Ag))),(Enc.rd_agr Af (m.a00 (Enc.rd_lt Af))),(Enc.rd_agr Ah (m.a00 (Enc.rd_lt Ah)))⟩) (show rd _ _ [I Ao.fType,I Ao.fGroup,Br] (Ao:Carton) from ⟨_,_,z,z,(Enc.rd_agr Av (m.a00 (Enc.rd_lt Av)))⟩) Bp) fun Cj e a k m=>?_)
         have s:=s.trans e (by simp)
         refine wpList_nil ⟨s,?_⟩
         refine d_one 24 (by kernel_rfl) z (oE h fun Cf Bb h=>cE k m call215 z z z (c_spec_Overlap fu (Bw:Box) (Bi:Spot) (Bs:Box) (Bx:Spot)  Bb) fun By e a k m=>?_)
         have s:=s.trans e (by simp)
         refine wpList_nil ⟨s,?_⟩
         refine d_done (by kernel_rfl) ?_
         have k:=k.keep [2,3,5,6,43] z
         refine (nm_then ?_)
         refine cI h k z (fun Bj h=>?_) fun Bj h=>?_
         · refine wr (pN 1 k z fun a k=>nn (wp_ret (rt_block (rt_then (rt_then (rt_block (rt_block (rt_then (rt_then (rt_block (rt_then ?_)))))))))))
           refine fS h k m z z
         refine wp_skip (nm_block (nm_then ?_))
         refine wp_region_lit (pN 3 k z fun a k=>nn ?_)
         exact ⟨w64 (Ai + 1),k.keep [2,3,5,6] z,m.sel [0,1] z (by decide),h⟩
       refine wp_exit (ex_then (ex_then (ex_same (nm_block (nm_then ?_)))))
       refine wp_region_lit (pN 3 k z fun a k=>nn ?_)
       exact ⟨w64 (Ac + 1),k.keep [2,3,5] z,m.sel [0,1] z (by decide),h⟩
     exact ⟨0,k.keep [2,3,5,6] z,m.sel [0,1] z (by decide),h⟩
   refine wp_exit (ex_then (ex_then (ex_same (nm_then ?_))))
   refine wr (pN 1 k z fun a k=>nn (wp_ret (fS h k m z z)))
 exact ⟨0,k.keep [2,3,5] z,m.sel [1,0] z (by decide),h⟩
theorem c_spec_l1Max (fu:Nat) {w0:World} (a1:Int) (b2:Int)  {r:Int}
    (h:d_spec_l1Max fu a1 b2 = some r) :
    Calls Tryz.prog 232 #[I a1,I b2] w0 fun e w=>e = .returned (I r) ∧ Ext [] w0 w:=by
 refine enter (vs:=[_,_]) func232 z ntmps232 z fun a k=>?_
 have m:=St.start w0
 unfold d_spec_l1Max at h
 refine wr (pN 1 k z fun a k=>nn (wp_seq (wr (pN 3 k z fun a k=>nn (cI h k z (fun Aa h=>?_) fun Aa h=>?_)))))
 · refine wr (pN 2 k z fun a k=>nn (wp_ret (rt_then ?_)))
   refine fS h k m z z
 refine wp_skip (nm_then ?_)
 refine wr (pN 2 k z fun a k=>nn (wp_ret (fS h k m z z)))
theorem c_spec_Pallets (fu:Nat) {w0:World} (Ac:List Spot) {v2:Value} {F3:List Nat} (Aa:rd w0 F3 [v2] Ac) {r:Int}
    (h:d_spec_Pallets fu Ac = some r) :
    Calls Tryz.prog 138 #[v2] w0 fun e w=>e = .returned (I r) ∧ Ext [] w0 w:=by
 refine enter (vs:=[_]) func138 z ntmps138 z fun a k=>?_
 have m:=St.start w0
 unfold d_spec_Pallets at h
 refine wr (pN 1 k z fun a k=>nn (wr (pN 1 k z fun a k=>nn (wp_seq (wr (pN 1 k z fun a k=>nn (wp_block (c_loop (fun n a w=>∃ (Af:Int) (Ab:Int),K 26 [(0,v2),(3,I Af),(4,I Ab)] a ∧ St [] w0 w [] ∧ d_spec_Pallets_L1 fu Ac n Af Ab = some r) ?_ ?_ fu _ _ ?_))))))))
 · rintro a w ⟨_,_,_,_,h⟩
   exact nS h
 · rintro Al a Aq ⟨Af,Ab,k,m,h⟩
   rw [d_spec_Pallets_L1_s] at h
   unfold d_spec_Pallets_L1_B at h
   refine wp_seq (wr (pN 2 k z fun a k=>sv k z (r_len (α:=Spot) Aa k underlying56 z z) fun a k=>pN 1 k z fun a k=>nn (cI h k z (fun Aj h=>?_) fun Aj h=>?_)))
   · refine wp_skip (nm_then ?_)
     refine c_cut (fun a w=>∃ (Ad:Int),K 26 [(0,v2),(3,I Ad),(4,I Ab)] a ∧ St [] w0 w [] ∧ d_spec_Pallets_J1 fu (d_spec_Pallets_L1 fu Ac Al) Ab Ad = some r) ?_ ?_
     · rintro a At ⟨Ad,k,m,h⟩
       unfold d_spec_Pallets_J1 at h
       refine wp_region_lit (pN 3 k z fun a k=>nn ?_)
       exact ⟨Ad,w64 (Ab + 1),k.keep [0,3,4] z,m.sel [] z (by decide),h⟩
     refine wp_block (wr (pN 2 k z fun a k=>oE h fun Am Ae h=>sv k z (r_ixa Aa Ae k ts56 z z z) fun a k=>sv k z (r_fa fa89_0 k z z) fun a k=>sv k z (r_lde1 Aa (m.a00 (Enc.rd_lt Aa)) Ae 0 t13 k z z z z) fun a k=>oE h fun As Ai h=>cE k m call130 z z z (c_spec_l1In fu _ _ _  Ai) fun Au e a k m=>nn (cI h k z (fun Ah h=>?_) fun Ah h=>?_)))
     · refine wp_region_lit (pN 3 k z fun a k=>oE h fun Ao Ap h=>sv k z (r_ixa Aa Ae k ts56 z z z) fun a k=>sv k z (r_fa fa89_0 k z z) fun a k=>sv k z (r_lde1 Aa (m.a00 (Enc.rd_lt Aa)) Ae 0 t13 k z z z z) fun a k=>pN 1 k z fun a k=>oE h fun Ak Ag h=>cE k m call232 z z z (c_spec_l1Max fu _ _  Ag) fun Ar e a k m=>pN 1 k z fun a k=>wpList_nil (nm_block (nm_then ?_)))
       exact ⟨Ak,k.keep [0,3,4] z,m.sel [] z (by decide),h⟩
     refine wp_skip (nm_block (nm_then ?_))
     exact ⟨Af,k.keep [0,3,4] z,m.sel [] z (by decide),h⟩
   refine wp_exit (ex_then (ex_then (ex_same (nm_then ?_))))
   refine wr (pN 2 k z fun a k=>nn (wp_ret (fS h k m z z)))
 exact ⟨0,0,k.keep [0,3,4] z,m.sel [] z (by decide),h⟩
theorem c_spec_OnPallet (fu:Nat) {w0:World} (x1:Plan) (Ab:Int) {Av:List Value} {F3:List Nat} (Bi:rd w0 F3 Av x1) {r:(List Int)}
    (h:d_spec_OnPallet fu x1 Ab = some r) :
    Calls Tryz.prog 216 #[.agg Av.toArray,I Ab] w0 fun e w=>∃ (v0:Value) (G0:List Nat),e = .returned (v0) ∧ Ext [] w0 w ∧ ow w G0 [v0] r ∧ (∀ b ∈ G0,w0.heap.size ≤ b):=by
 refine enter (vs:=[_,_]) func216 z ntmps216 z fun a k=>?_
 have m:=St.start w0
 obtain ⟨v6,F7,v8,F9,rfl,rfl,Ar,Al⟩:=Bi
 unfold d_spec_OnPallet at h
 refine wr (s_box (cs:=[v6,v8]) m k z z z z z z fun Ad Aq a k m e Aj=>pN 1 k z fun a k=>nn (wr (s_bs (cs:=[]) (ps:=[]) te63 m k z z z z z z z (by decide) z (by exact (List.forall_mem_nil _)) fun At Bg Bp a k m e Ax=>?_)))
 have Bk:=ow_bx Ax ([]:List Int) z z z
 refine pN 1 k z fun a k=>nn (wp_seq (wr (pN 1 k z fun a k=>nn (wp_block (c_loop (fun n a w=>∃ (Ae:List Int) (Ah:Value) (Ac:List Nat) (Ag:World) (Aa:Int),K 37 [(1,I Ab),(2,.pointer (some (⟨Ad,0,none⟩:Addr))),(5,Ah),(6,I Aa)] a ∧ St [] w0 w [([Ad],Aq),(Ac,Ag)] ∧ ow Ag Ac [Ah] Ae ∧ d_spec_OnPallet_L1 fu x1 Ab n Ae Aa = some r) ?_ ?_ fu _ _ ?_)))))
 · rintro a w ⟨_,_,_,_,_,_,_,_,h⟩
   exact nS h
 · rintro Au a Bl ⟨Ae,Ah,Ac,Ag,Aa,k,m,Ao,h⟩
   rw [d_spec_OnPallet_L1_s] at h
   unfold d_spec_OnPallet_L1_B at h
   refine c_cut (fun a w=>K 37 [(1,I Ab),(2,.pointer (some (⟨Ad,0,none⟩:Addr))),(5,Ah),(6,I Aa)] a ∧ St [] w0 w [([Ad],Aq),(Ac,Ag)] ∧ d_spec_OnPallet_J2 fu (d_spec_OnPallet_L1 fu x1 Ab Au) x1 Ab Ae Aa = some r) ?_ ?_
   · rintro a Br ⟨k,m,h⟩
     unfold d_spec_OnPallet_J2 at h
     refine c_cut (fun a w=>∃ (Ai:List Int) (Ak:Value) (Am:List Nat) (Ap:World),K 37 [(1,I Ab),(2,.pointer (some (⟨Ad,0,none⟩:Addr))),(5,Ak),(6,I Aa)] a ∧ St [] w0 w [([Ad],Aq),(Am,Ap)] ∧ ow Ap Am [Ak] Ai ∧ d_spec_OnPallet_J1 fu (d_spec_OnPallet_L1 fu x1 Ab Au) Aa Ai = some r) ?_ ?_
     · rintro a Bm ⟨Ai,Ak,Am,Ap,k,m,Ay,h⟩
       unfold d_spec_OnPallet_J1 at h
       refine wp_region_lit (pN 3 k z fun a k=>nn ?_)
       exact ⟨Ai,Ak,Am,Ap,w64 (Aa + 1),k.keep [1,2,5,6] z,m.sel [0,1] z (by decide),Ay,h⟩
     refine wp_block (wr (sv k z (r_fa fa58_1 k z z) fun a k=>sv k z (r_ldb t156 m 0 Aj 1 k z z z z z) fun a k=>pN 1 k z fun a k=>oE h fun Bo As h=>sv k z (r_ixa Al As k ts56 z z z) fun a k=>sv k z (r_fa fa89_0 k z z) fun a k=>sv k z (r_lde1 Al (m.a00 (Enc.rd_lt Al)) As 0 t13 k z z z z) fun a k=>pN 2 k z fun a k=>nn (cI h k z (fun Bc h=>?_) fun Bc h=>?_)))
     · refine wp_region_lit (pN 2 k z fun a k=>s_bs (cs:=[I Aa]) (ps:=[(0,.tmp 33)]) te63 m k z z z z z z z (by decide) z (by exact (List.forall_mem_cons.2 ⟨z,(List.forall_mem_nil _)⟩)) fun Bn Bq Bs a k m e Be=>?_)
       have Ba:=ow_bx Be ([Aa]:List Int) z z z
       refine oE h fun Az Bd h=>s_appF Bd te63 z m 2 Ao (News.rd (Enc.rd_agr (Enc.ow_rd Ba) (m.a 0 z))) z z k z z z z z z z fun Bj Bh Bb a k e m Bf=>pN 1 k z fun a k=>wpList_nil (nm_block (nm_then ?_))
       exact ⟨Az,Bj,Bh,Bb,k.keep [1,2,5,6] z,m.sel [1,2] z (by decide),Bf,h⟩
     refine wp_skip (nm_block (nm_then ?_))
     exact ⟨Ae,Ah,Ac,Ag,k.keep [1,2,5,6] z,m.sel [0,1] z (by decide),Ao,h⟩
   refine wr (pN 1 k z fun a k=>sv k z (r_fa fa58_0 k z z) fun a k=>sv k z (r_ldb t155 m 0 Aj 0 k z z z z z) fun a k=>sv k z (r_len (α:=Carton) Ar k underlying55 z z) fun a k=>pN 2 k z fun a k=>bsplit (decide (Aa < ((x1.fCartons.length:Int)))) (fun Af=>?_) (fun Af=>?_))
   · have h:=bif_t Af h
     refine rB k 13 z Af fun k=>sv k z (r_fa fa58_0 k z z) fun a k=>sv k z (r_ldb t155 m 0 Aj 0 k z z z z z) fun a k=>sv k z (r_len (α:=Carton) Ar k underlying55 z z) fun a k=>sv k z (r_fa fa58_1 k z z) fun a k=>sv k z (r_ldb t156 m 0 Aj 1 k z z z z z) fun a k=>sv k z (r_len (α:=Spot) Al k underlying56 z z) fun a k=>pN 2 k z fun a k=>nn (cI h k z (fun Aw h=>?_) fun Aw h=>?_)
     · refine wp_skip (nm_then ?_)
       exact ⟨k.keep [1,2,5,6] z,m.sel [0,1] z (by decide),h⟩
     refine wp_exit (ex_then (ex_then (ex_same (nm_then ?_))))
     refine wr (pN 2 k z fun a k=>nn (wp_ret ?_))
     cases h
     exact finR1 k z (RV.tmp k z) ⟨_,Ac,z,m.ext,(Enc.ow_agr Ao (m.a 1 z)),(m.fresh 1 z)⟩
   have h:=bif_f Af h
   refine rB k 13 z Af fun k=>pN 8 k z fun a k=>nn (wp_cond_false (k.ev z) (wp_exit (ex_then (ex_then (ex_same (nm_then ?_))))))
   refine wr (pN 2 k z fun a k=>nn (wp_ret ?_))
   cases h
   exact finR1 k z (RV.tmp k z) ⟨_,Ac,z,m.ext,(Enc.ow_agr Ao (m.a 1 z)),(m.fresh 1 z)⟩
 exact ⟨([]:List Int),(.slice (some ⟨At,0,none⟩) 0 0),[At],Bg,0,k.keep [1,2,5,6] z,m.sel [1,0] z (by decide),Bk,h⟩
theorem c_spec_PalletGram (fu:Nat) {w0:World} (r1:Request) (x5:Plan) (Af:Int) {Ax:List Value} {F3:List Nat} (Bp:rd w0 F3 Ax r1) {Au:List Value} {F7:List Nat} (Bi:rd w0 F7 Au x5) {r:Int}
    (h:d_spec_PalletGram fu r1 x5 Af = some r) :
    Calls Tryz.prog 217 #[.agg Ax.toArray,.agg Au.toArray,I Af] w0 fun e w=>e = .returned (I r) ∧ Ext [] w0 w:=by
 refine enter (vs:=[_,_,_]) func217 z ntmps217 z fun a k=>?_
 have m:=St.start w0
 obtain ⟨Am,Cc,Ap,Bu,Al,Br,rfl,rfl,Aj,Aw,Av⟩:=Bp
 obtain ⟨Ah,Bv,As,Bt,rfl,rfl,Ab,At⟩:=Bi
 unfold d_spec_PalletGram at h
 refine wr (s_box (cs:=[I r1.fWay,I r1.fPallet.fW,I r1.fPallet.fD,I r1.fPallet.fH,I r1.fPallet.fGram,I r1.fClasses,Am,Ap,I r1.fMaster,Al]) m k z z z z z z fun Ag Bn a k m e Bd=>s_box (cs:=[Ah,As]) m k z z z z z z fun Ar Bc a k m e Aq=>pN 1 k z fun a k=>nn (wr (pN 1 k z fun a k=>nn (wr (sv k z (r_ldB ta58 m 0 Aq 0 k z z z z z z) fun a k=>pN 1 k z fun a k=>oE h fun Az Bj h=>s_call k call216 z z z z z (c_spec_OnPallet fu _ _ (show rd _ _ [Ah,As] (x5:Plan) from ⟨_,_,_,_,z,z,(Enc.rd_agr Ab (m.a00 (Enc.rd_lt Ab))),(Enc.rd_agr At (m.a00 (Enc.rd_lt At)))⟩) Bj) fun Bx Bg hR=>?_)))))
 obtain ⟨Bk,Ak,rfl,e,Aa,Bm⟩:=hR
 refine ⟨_,z,fun a k=>?_⟩
 have m:=m.new e Ak (fun b hb=>⟨Bm b hb,Enc.rd_lt (Enc.ow_rd Aa) b hb⟩) (Enc.ow_nd Aa)
 refine pN 1 k z fun a k=>nn (wp_seq (wr (pN 1 k z fun a k=>nn (wp_block (c_loop (fun n a w=>∃ (Ad:Int) (Ac:Int),K 32 [(3,.pointer (some (⟨Ag,0,none⟩:Addr))),(4,.pointer (some (⟨Ar,0,none⟩:Addr))),(7,I Ad),(8,Bk),(9,I Ac)] a ∧ St [] w0 w [([Ag],Bn),([Ar],Bc),(Ak,Bg)] ∧ d_spec_PalletGram_L1 fu r1 x5 Az n Ad Ac = some r) ?_ ?_ fu _ _ ?_)))))
 · rintro a w ⟨_,_,_,_,h⟩
   exact nS h
 · rintro Bz a Bw ⟨Ad,Ac,k,m,h⟩
   rw [d_spec_PalletGram_L1_s] at h
   unfold d_spec_PalletGram_L1_B at h
   refine wp_seq (wr (pN 2 k z fun a k=>sv k z (r_len (α:=Int) (Enc.ow_rd Aa) k underlying63 z z) fun a k=>pN 1 k z fun a k=>nn (cI h k z (fun Bo h=>?_) fun Bo h=>?_)))
   · refine wp_skip (nm_then ?_)
     refine wp_seq (wp_block (d_go [] mixo m z fun Bf hMd=>?_))
     have m:=hMd
     have s:=Ext.refl ([]:List Nat) Bf
     refine dN [0,4,5] 3 z k (by kernel_rfl) z s (fun _ _ _ _ _=>id) fun a k=>dt k 1 z (by kernel_rfl) z s (fun _ _ _=>id) (fun w s=>r_ldA ta38 (Bd.at ((hMd.step s).a 0 z) 0 10 z z z) z k z z) fun a k=>dt k 2 z (by kernel_rfl) z s (fun _ _ _=>id) (fun w s=>r_fa fa58_0 k z z) fun a k=>dt k 3 z (by kernel_rfl) z s (fun _ _ _=>id) (fun w s=>r_ld1 t155 (r:=[]) (Aq.at ((hMd.step s).a 1 z) 0 1 z z z) k z z) fun a k=>oE h fun By Ai h=>dt k 6 z (by kernel_rfl) z s (fun _ _ _=>id) (fun w s=>r_ixa (Enc.ow_rd Aa) Ai k ts63 z z z) fun a k=>dt k 7 z (by kernel_rfl) z s (fun _ _ _=>id) (fun w s=>r_lde1 (Enc.ow_rd Aa) ((hMd.step s).a 2 z) Ai 0 t13 k z z z z) fun a k=>oE h fun Ae Ao h=>?_
     refine dt k 8 z (by kernel_rfl) z s (fun _ _ _=>id) (fun w s=>r_ixa Ab Ao k ts55 z z z) fun a k=>?_
     obtain ⟨Ca,Bs,Cd,Ba,Be,Bb⟩:=rd_get Ab (ix_some Ao).2.2
     obtain ⟨Bq,_,rfl,rfl,Ay⟩:=Ba
     refine dt k 9 z (by kernel_rfl) z s (fun _ _ _=>id) (fun w s=>r_ldA ta83 (Be.agr ((hMd.step s).a00 (Enc.rd_lt Ab)) Bb) z k z z) fun a k=>d_one 10 (by kernel_rfl) z (oE h fun Bl Bh h=>cE k m call269 z z z (c_spec_Gross fu _ _ (show rd _ _ [I r1.fWay,I r1.fPallet.fW,I r1.fPallet.fD,I r1.fPallet.fH,I r1.fPallet.fGram,I r1.fClasses,Am,Ap,I r1.fMaster,Al] (r1:Request) from ⟨_,_,_,_,_,_,z,z,(Enc.rd_agr Aj (m.a00 (Enc.rd_lt Aj))),(Enc.rd_agr Aw (m.a00 (Enc.rd_lt Aw))),(Enc.rd_agr Av (m.a00 (Enc.rd_lt Av)))⟩) (show rd _ _ [I Ae.fType,I Ae.fGroup,Bq] (Ae:Carton) from ⟨_,_,z,z,(Enc.rd_agr Ay (m.a00 (Enc.rd_lt Ay)))⟩) Bh) fun Cb e a k m=>?_)
     have s:=s.trans e (by simp)
     refine wpList_nil ⟨s,?_⟩
     refine dN [11,12] 2 z k (by kernel_rfl) z s (fun _ _ _ _ _=>id) fun a k=>d_done (by kernel_rfl) ((nm_block (nm_then ?_)))
     refine wp_region_lit (pN 3 k z fun a k=>nn ?_)
     exact ⟨w64 (Ad + Bl),w64 (Ac + 1),k.keep [3,4,7,8,9] z,m.sel [0,1,2] z (by decide),h⟩
   refine wp_exit (ex_then (ex_then (ex_same (nm_then ?_))))
   refine wr (pN 2 k z fun a k=>nn (wp_ret (fS h k m z z)))
 exact ⟨0,0,k.keep [3,4,7,8,9] z,m.sel [2,1,0] z (by decide),h⟩
theorem c_spec_l15Pallets (fu:Nat) {w0:World} (r1:Request) (x5:Plan) {Ay:List Value} {F3:List Nat} (Bj:rd w0 F3 Ay r1) {At:List Value} {F7:List Nat} (Bp:rd w0 F7 At x5) {r:Bool}
    (h:d_spec_l15Pallets fu r1 x5 = some r) :
    Calls Tryz.prog 112 #[.agg Ay.toArray,.agg At.toArray] w0 fun e w=>e = .returned (.bool (r)) ∧ Ext [] w0 w:=by
 refine enter (vs:=[_,_]) func112 z ntmps112 z fun a k=>?_
 have m:=St.start w0
 obtain ⟨v9,Cx,Bf,Cz,Ba,Cr,rfl,rfl,Be,Aw,Au⟩:=Bj
 obtain ⟨Ao,Cj,Ar,Cs,rfl,rfl,Ab,Ag⟩:=Bp
 unfold d_spec_l15Pallets at h
 refine wr (s_box (cs:=[I r1.fWay,I r1.fPallet.fW,I r1.fPallet.fD,I r1.fPallet.fH,I r1.fPallet.fGram,I r1.fClasses,v9,Bf,I r1.fMaster,Ba]) m k z z z z z z fun Ae Ak a k m e Az=>s_box (cs:=[Ao,Ar]) m k z z z z z z fun Ac Aj a k m e Ah=>pN 1 k z fun a k=>nn (wr (sv k z (r_fa fa58_1 k z z) fun a k=>sv k z (r_ldb t156 m 0 Ah 1 k z z z z z) fun a k=>oE h fun Ad Bk h=>cE k m call138 z z z (c_spec_Pallets fu _ (Enc.rd_agr Ag (m.a00 (Enc.rd_lt Ag))) Bk) fun Cu e a k m=>pN 1 k z fun a k=>nn (wp_seq (wr (pN 1 k z fun a k=>nn (wp_block ?_)))))))
 refine c_loop (fun n a w=>∃ (Aa:Int),K 57 [(2,.pointer (some (⟨Ae,0,none⟩:Addr))),(3,.pointer (some (⟨Ac,0,none⟩:Addr))),(5,I Ad),(6,I Aa)] a ∧ St [] w0 w [([Ae],Ak),([Ac],Aj)] ∧ d_spec_l15Pallets_L2 fu r1 x5 Ad n Aa = some r) ?_ ?_ fu _ _ ?_
 · rintro a w ⟨_,_,_,h⟩
   exact nS h
 · rintro Aq a Ck ⟨Aa,k,m,h⟩
   rw [d_spec_l15Pallets_L2_s] at h
   unfold d_spec_l15Pallets_L2_B at h
   refine wp_seq (wr (pN 3 k z fun a k=>nn (cI h k z (fun Bh h=>?_) fun Bh h=>?_)))
   · refine wp_skip (nm_then ?_)
     refine c_cut (fun a w=>K 57 [(2,.pointer (some (⟨Ae,0,none⟩:Addr))),(3,.pointer (some (⟨Ac,0,none⟩:Addr))),(5,I Ad),(6,I Aa)] a ∧ St [] w0 w [([Ae],Ak),([Ac],Aj)] ∧ d_spec_l15Pallets_J1 fu (d_spec_l15Pallets_L2 fu r1 x5 Ad Aq) Aa = some r) ?_ ?_
     · rintro a Cw ⟨k,m,h⟩
       unfold d_spec_l15Pallets_J1 at h
       refine wp_region_lit (pN 3 k z fun a k=>nn ?_)
       exact ⟨w64 (Aa + 1),k.keep [2,3,5,6] z,m.sel [0,1] z (by decide),h⟩
     refine wp_block (wr (sv k z (r_ldB ta58 m 1 Ah 0 k z z z z z z) fun a k=>pN 1 k z fun a k=>oE h fun Ap Bg h=>s_call k call216 z z z z z (c_spec_OnPallet fu _ _ (show rd _ _ [Ao,Ar] (x5:Plan) from ⟨_,_,_,_,z,z,(Enc.rd_agr Ab (m.a00 (Enc.rd_lt Ab))),(Enc.rd_agr Ag (m.a00 (Enc.rd_lt Ag)))⟩) Bg) fun Cb Bc hR=>?_))
     obtain ⟨Ax,Am,rfl,e,Af,Bv⟩:=hR
     refine ⟨_,z,fun a k=>?_⟩
     have m:=m.new e Am (fun b hb=>⟨Bv b hb,Enc.rd_lt (Enc.ow_rd Af) b hb⟩) (Enc.ow_nd Af)
     refine pN 1 k z fun a k=>nn (c_cut (fun a w=>K 57 [(2,.pointer (some (⟨Ae,0,none⟩:Addr))),(3,.pointer (some (⟨Ac,0,none⟩:Addr))),(5,I Ad),(6,I Aa),(7,Ax)] a ∧ St [] w0 w [([Ae],Ak),([Ac],Aj),(Am,Bc)] ∧ d_spec_l15Pallets_J2 fu (d_spec_l15Pallets_L2 fu r1 x5 Ad Aq) x5 Aa Ap = some r) ?_ ?_)
     · rintro a Cl ⟨k,m,h⟩
       unfold d_spec_l15Pallets_J2 at h
       refine wr (pN 1 k z fun a k=>nn (wp_block (c_loop (fun n a w=>∃ (Al:Int),K 57 [(2,.pointer (some (⟨Ae,0,none⟩:Addr))),(3,.pointer (some (⟨Ac,0,none⟩:Addr))),(5,I Ad),(6,I Aa),(7,Ax),(8,I Al)] a ∧ St [] w0 w [([Ae],Ak),([Ac],Aj),(Am,Bc)] ∧ d_spec_l15Pallets_L1 fu (d_spec_l15Pallets_L2 fu r1 x5 Ad Aq) x5 Aa Ap n Al = some r) ?_ ?_ fu _ _ ?_)))
       · rintro a w ⟨_,_,_,h⟩
         exact nS h
       · rintro Cy a Cc ⟨Al,k,m,h⟩
         rw [d_spec_l15Pallets_L1_s] at h
         unfold d_spec_l15Pallets_L1_B at h
         refine wp_seq (wr (pN 2 k z fun a k=>sv k z (r_len (α:=Int) (Enc.ow_rd Af) k underlying63 z z) fun a k=>pN 1 k z fun a k=>nn (cI h k z (fun Bx h=>?_) fun Bx h=>?_)))
         · refine wp_skip (nm_then ?_)
           refine wp_seq (wp_block (wp_seq (d_go [] mixo m z fun Bt hMd=>?_)))
           have m:=hMd
           have s:=Ext.refl ([]:List Nat) Bt
           refine dN [2,3,11] 3 z k (by kernel_rfl) z s (fun _ _ _ _ _=>id) fun a k=>dt k 0 z (by kernel_rfl) z s (fun _ _ _=>id) (fun w s=>r_fa fa58_0 k z z) fun a k=>dt k 1 z (by kernel_rfl) z s (fun _ _ _=>id) (fun w s=>r_ld1 t155 (r:=[]) (Ah.at ((hMd.step s).a 1 z) 0 1 z z z) k z z) fun a k=>oE h fun By As h=>dt k 4 z (by kernel_rfl) z s (fun _ _ _=>id) (fun w s=>r_ixa (Enc.ow_rd Af) As k ts63 z z z) fun a k=>dt k 5 z (by kernel_rfl) z s (fun _ _ _=>id) (fun w s=>r_lde1 (Enc.ow_rd Af) ((hMd.step s).a 2 z) As 0 t13 k z z z z) fun a k=>oE h fun Cf Bb h=>dt k 6 z (by kernel_rfl) z s (fun _ _ _=>id) (fun w s=>r_ixa Ab Bb k ts55 z z z) fun a k=>?_
           refine dt k 7 z (by kernel_rfl) z s (fun _ _ _=>id) (fun w s=>r_fa fa83_1 k z z) fun a k=>?_
           obtain ⟨Ca,Ch,Cg,Bq,Bs,Bo⟩:=rd_get Ab (ix_some Bb).2.2
           obtain ⟨Ci,_,rfl,rfl,Co⟩:=Bq
           refine dt k 8 z (by kernel_rfl) z s (fun _ _ _=>id) (fun w s=>r_ld1 t13 ((Bs.agr ((hMd.step s).a00 (Enc.rd_lt Ab)) Bo).fld 1 1 (Nat.le_of_ble_eq_true z)) k z z) fun a k=>dt k 9 z (by kernel_rfl) z s (fun _ _ _=>id) (fun w s=>r_fa fa58_0 k z z) fun a k=>dt k 10 z (by kernel_rfl) z s (fun _ _ _=>id) (fun w s=>r_ld1 t155 (r:=[]) (Ah.at ((hMd.step s).a 1 z) 0 1 z z z) k z z) fun a k=>oE h fun Cm Bd h=>dt k 12 z (by kernel_rfl) z s (fun _ _ _=>id) (fun w s=>r_ixa (Enc.ow_rd Af) Bd k ts63 z z z) fun a k=>dt k 13 z (by kernel_rfl) z s (fun _ _ _=>id) (fun w s=>r_lde1 (Enc.ow_rd Af) ((hMd.step s).a 2 z) Bd 0 t13 k z z z z) fun a k=>oE h fun Cd Av h=>?_
           refine dt k 14 z (by kernel_rfl) z s (fun _ _ _=>id) (fun w s=>r_ixa Ab Av k ts55 z z z) fun a k=>dt k 15 z (by kernel_rfl) z s (fun _ _ _=>id) (fun w s=>r_fa fa83_1 k z z) fun a k=>?_
           obtain ⟨Cp,Bz,Cq,Bu,Bm,Bi⟩:=rd_get Ab (ix_some Av).2.2
           obtain ⟨Cv,_,rfl,rfl,Ce⟩:=Bu
           refine dt k 16 z (by kernel_rfl) z s (fun _ _ _=>id) (fun w s=>r_ld1 t13 ((Bm.agr ((hMd.step s).a00 (Enc.rd_lt Ab)) Bi).fld 1 1 (Nat.le_of_ble_eq_true z)) k z z) fun a k=>dN [17] 1 z k (by kernel_rfl) z s (fun _ _ _ _ _=>id) fun a k=>d_done (by kernel_rfl) ((nm_then ?_))
           refine cI h k z (fun Bn h=>?_) fun Bn h=>?_
           · refine wr (pN 1 k z fun a k=>nn (wp_ret (rt_block (rt_then (rt_then (rt_block (rt_block (rt_then (rt_then (rt_block (rt_then ?_)))))))))))
             refine fS h k m z z
           refine wp_skip (nm_block (nm_then ?_))
           refine wp_region_lit (pN 3 k z fun a k=>?_)
           have k:=k.keep [2,3,5,6,7,8] z
           refine nn ?_
           exact ⟨w64 (Al + 1),k.keep [2,3,5,6,7,8] z,m.sel [0,1,2] z (by decide),h⟩
         refine wp_exit (ex_then (ex_then (ex_same (nm_block (nm_then ?_)))))
         exact ⟨k.keep [2,3,5,6] z,m.sel [0,1] z (by decide),h⟩
       exact ⟨1,k.keep [2,3,5,6,7,8] z,m.sel [0,1,2] z (by decide),h⟩
     refine wp_seq (d_go [] mixo m z fun Br hMd=>?_)
     have m:=hMd
     have s:=Ext.refl ([]:List Nat) Br
     refine dN [0] 1 z k (by kernel_rfl) z s (fun _ _ _ _ _=>id) fun a k=>dt k 1 z (by kernel_rfl) z s (fun _ _ _=>id) (fun w s=>r_len (α:=Int) (Enc.ow_rd Af) k underlying63 z z) fun a k=>dN [2,3] 2 z k (by kernel_rfl) z s (fun _ _ _ _ _=>id) fun a k=>bsplit (((Ap.length:Int)) == 0) (fun Ai=>?_) (fun Ai=>?_)
     · have h:=bif_t Ai h
       refine rB k 23 z Ai fun k=>dN [4,5,6,7,8,9,10,11,12] 9 z k (by kernel_rfl) z s (fun _ _ _ _ _=>id) fun a k=>d_done (by kernel_rfl) ((nm_then ?_))
       refine wp_cond_true (k.ev z) (wr (pN 1 k z fun a k=>nn (wp_ret (rt_then (rt_block (rt_then (rt_then (rt_block (rt_then ?_)))))))))
       refine fS h k m z z
     have h:=bif_f Ai h
     refine rB k 23 z Ai fun k=>dN [6] 1 z k (by kernel_rfl) z s (fun _ _ _ _ _=>id) fun a k=>dt k 4 z (by kernel_rfl) z s (fun _ _ _=>id) (fun w s=>r_ldA ta38 (Az.at ((hMd.step s).a 1 z) 0 10 z z z) z k z z) fun a k=>dt k 5 z (by kernel_rfl) z s (fun _ _ _=>id) (fun w s=>r_ldA ta58 (Ah.at ((hMd.step s).a 2 z) 0 2 z z z) z k z z) fun a k=>dt k 8 z (by kernel_rfl) z s (fun _ _ _=>id) (fun w s=>r_fa fa38_1 k z z) fun a k=>dt k 9 z (by kernel_rfl) z s (fun _ _ _=>id) (fun w s=>r_fa fa33_3 k z z) fun a k=>dt k 10 z (by kernel_rfl) z s (fun _ _ _=>id) (fun w s=>r_ld1 t13 (r:=[]) (Az.at ((hMd.step s).a 1 z) 4 1 z z z) k z z) fun a k=>d_one 7 (by kernel_rfl) z (oE h fun Cn Bw h=>?_)
     refine cE k m call217 z z z (c_spec_PalletGram fu _ _ _ (show rd _ _ [I r1.fWay,I r1.fPallet.fW,I r1.fPallet.fD,I r1.fPallet.fH,I r1.fPallet.fGram,I r1.fClasses,v9,Bf,I r1.fMaster,Ba] (r1:Request) from ⟨_,_,_,_,_,_,z,z,(Enc.rd_agr Be (m.a00 (Enc.rd_lt Be))),(Enc.rd_agr Aw (m.a00 (Enc.rd_lt Aw))),(Enc.rd_agr Au (m.a00 (Enc.rd_lt Au)))⟩) (show rd _ _ [Ao,Ar] (x5:Plan) from ⟨_,_,_,_,z,z,(Enc.rd_agr Ab (m.a00 (Enc.rd_lt Ab))),(Enc.rd_agr Ag (m.a00 (Enc.rd_lt Ag)))⟩) Bw) fun Ct e a k m=>?_
     have s:=s.trans e (by simp)
     refine wpList_nil ⟨s,?_⟩
     refine dN [11,12] 2 z k (by kernel_rfl) z s (fun _ _ _ _ _=>id) fun a k=>d_done (by kernel_rfl) ((nm_then ?_))
     refine cI h k z (fun Bl h=>?_) fun Bl h=>?_
     · refine wr (pN 1 k z fun a k=>nn (wp_ret (rt_then (rt_block (rt_then (rt_then (rt_block (rt_then ?_))))))))
       refine fS h k m z z
     refine wp_skip (nm_then ?_)
     exact ⟨k.keep [2,3,5,6,7] z,m.sel [1,2,0] z (by decide),h⟩
   refine wp_exit (ex_then (ex_then (ex_same (nm_then ?_))))
   refine wr (pN 1 k z fun a k=>nn (wp_ret (fS h k m z z)))
 exact ⟨0,k.keep [2,3,5,6] z,m.sel [1,0] z (by decide),h⟩
theorem c_spec_Check (fu:Nat) {w0:World} (r1:Request) (x5:Plan) {Aq:List Value} {F3:List Nat} (Bq:rd w0 F3 Aq r1) {Ap:List Value} {F7:List Nat} (Bg:rd w0 F7 Ap x5) {r:Int}
    (h:d_spec_Check fu r1 x5 = some r) :
    Calls Tryz.prog 33 #[.agg Aq.toArray,.agg Ap.toArray] w0 fun e w=>e = .returned (I r) ∧ Ext [] w0 w:=by
 refine enter (vs:=[_,_]) func33 z ntmps33 z fun a k=>?_
 have m:=St.start w0
 obtain ⟨v9,Bu,Aj,Cu,Ai,Ck,rfl,rfl,Ae,Ac,Ad⟩:=Bq
 obtain ⟨Af,Ch,Ag,Bw,rfl,rfl,Aa,Ab⟩:=Bg
 unfold d_spec_Check at h
 refine wr (s_box (cs:=[I r1.fWay,I r1.fPallet.fW,I r1.fPallet.fD,I r1.fPallet.fH,I r1.fPallet.fGram,I r1.fClasses,v9,Aj,I r1.fMaster,Ai]) m k z z z z z z fun Ao As a k m e Ak=>s_box (cs:=[Af,Ag]) m k z z z z z z fun Ar Ay a k m e Ah=>pN 1 k z fun a k=>nn (wp_seq (wr (sv k z (r_ldB ta38 m 1 Ak 0 k z z z z z z) fun a k=>oE h fun By Av h=>?_))))
 refine cE k m call74 z z z (c_spec_Class fu _ (show rd _ _ [I r1.fWay,I r1.fPallet.fW,I r1.fPallet.fD,I r1.fPallet.fH,I r1.fPallet.fGram,I r1.fClasses,v9,Aj,I r1.fMaster,Ai] (r1:Request) from ⟨_,_,_,_,_,_,z,z,(Enc.rd_agr Ae (m.a00 (Enc.rd_lt Ae))),(Enc.rd_agr Ac (m.a00 (Enc.rd_lt Ac))),(Enc.rd_agr Ad (m.a00 (Enc.rd_lt Ad)))⟩) Av) fun Cj e a k m=>pN 1 k z fun a k=>nn (cI h k z (fun Bc h=>?_) fun Bc h=>?_)
 · refine wr (pN 1 k z fun a k=>nn (wp_ret (rt_then ?_)))
   refine fS h k m z z
 refine wp_skip (nm_then ?_)
 refine c_cut (fun a w=>K 54 [(2,.pointer (some (⟨Ao,0,none⟩:Addr))),(3,.pointer (some (⟨Ar,0,none⟩:Addr)))] a ∧ St [] w0 w [([Ao],As),([Ar],Ay)] ∧ d_spec_Check_J1 fu r1 x5 = some r) ?_ ?_
 · rintro a Cs ⟨k,m,h⟩
   unfold d_spec_Check_J1 at h
   refine wr (sv k z (r_ldB ta38 m 0 Ak 0 k z z z z z z) fun a k=>oE h fun Cf Bf h=>s_call k call90 z z z z z (c_spec_l6Units fu _ (show rd _ _ [I r1.fWay,I r1.fPallet.fW,I r1.fPallet.fD,I r1.fPallet.fH,I r1.fPallet.fGram,I r1.fClasses,v9,Aj,I r1.fMaster,Ai] (r1:Request) from ⟨_,_,_,_,_,_,z,z,(Enc.rd_agr Ae (m.a00 (Enc.rd_lt Ae))),(Enc.rd_agr Ac (m.a00 (Enc.rd_lt Ac))),(Enc.rd_agr Ad (m.a00 (Enc.rd_lt Ad)))⟩) Bf) fun Cn Cg hR=>?_)
   obtain ⟨Cl,Ax,rfl,e,Am,Bl⟩:=hR
   refine ⟨_,z,fun a k=>?_⟩
   have m:=m.new e Ax (fun b hb=>⟨Bl b hb,Enc.rd_lt (Enc.ow_rd Am) b hb⟩) (Enc.ow_nd Am)
   refine pN 1 k z fun a k=>nn (wp_seq (wp_block (wr (pN 1 k z fun a k=>sv k z (r_ldB ta58 m 2 Ah 0 k z z z z z z) fun a k=>oE h fun Cc Bo h=>cE k m call106 z z z (c_spec_l15Units fu _ _ (Enc.rd_agr (Enc.ow_rd Am) (m.a 0 z)) (show rd _ _ [Af,Ag] (x5:Plan) from ⟨_,_,_,_,z,z,(Enc.rd_agr Aa (m.a00 (Enc.rd_lt Aa))),(Enc.rd_agr Ab (m.a00 (Enc.rd_lt Ab)))⟩) Bo) fun Bt e a k m=>pN 2 k z fun a k=>nn (cI h k z (fun Bm h=>?_) fun Bm h=>?_)))))
   · refine wr (pN 1 k z fun a k=>nn (wp_ret (rt_block (rt_then ?_))))
     refine fS h k m z z
   refine wr (sv k z (r_ldB ta38 m 1 Ak 0 k z z z z z z) fun a k=>sv k z (r_ldB ta58 m 2 Ah 0 k z z z z z z) fun a k=>oE h fun Co Bb h=>cE k m call107 z z z (c_spec_l15Holds fu _ _ (show rd _ _ [I r1.fWay,I r1.fPallet.fW,I r1.fPallet.fD,I r1.fPallet.fH,I r1.fPallet.fGram,I r1.fClasses,v9,Aj,I r1.fMaster,Ai] (r1:Request) from ⟨_,_,_,_,_,_,z,z,(Enc.rd_agr Ae (m.a00 (Enc.rd_lt Ae))),(Enc.rd_agr Ac (m.a00 (Enc.rd_lt Ac))),(Enc.rd_agr Ad (m.a00 (Enc.rd_lt Ad)))⟩) (show rd _ _ [Af,Ag] (x5:Plan) from ⟨_,_,_,_,z,z,(Enc.rd_agr Aa (m.a00 (Enc.rd_lt Aa))),(Enc.rd_agr Ab (m.a00 (Enc.rd_lt Ab)))⟩) Bb) fun Ce e a k m=>pN 2 k z fun a k=>nn (cI h k z (fun Au h=>?_) fun Au h=>?_))
   · refine wr (pN 1 k z fun a k=>nn (wp_ret (rt_block (rt_then ?_))))
     refine fS h k m z z
   refine wr (sv k z (r_ldB ta38 m 1 Ak 0 k z z z z z z) fun a k=>pN 1 k z fun a k=>sv k z (r_ldB ta58 m 2 Ah 0 k z z z z z z) fun a k=>oE h fun Bx Bi h=>cE k m call108 z z z (c_spec_l15Group fu _ _ _ (show rd _ _ [I r1.fWay,I r1.fPallet.fW,I r1.fPallet.fD,I r1.fPallet.fH,I r1.fPallet.fGram,I r1.fClasses,v9,Aj,I r1.fMaster,Ai] (r1:Request) from ⟨_,_,_,_,_,_,z,z,(Enc.rd_agr Ae (m.a00 (Enc.rd_lt Ae))),(Enc.rd_agr Ac (m.a00 (Enc.rd_lt Ac))),(Enc.rd_agr Ad (m.a00 (Enc.rd_lt Ad)))⟩) (Enc.rd_agr (Enc.ow_rd Am) (m.a 0 z)) (show rd _ _ [Af,Ag] (x5:Plan) from ⟨_,_,_,_,z,z,(Enc.rd_agr Aa (m.a00 (Enc.rd_lt Aa))),(Enc.rd_agr Ab (m.a00 (Enc.rd_lt Ab)))⟩) Bi) fun Cm e a k m=>?_)
   refine pN 2 k z fun a k=>nn (cI h k z (fun At h=>?_) fun At h=>?_)
   · refine wr (pN 1 k z fun a k=>nn (wp_ret (rt_block (rt_then ?_))))
     refine fS h k m z z
   refine wr (sv k z (r_ldB ta38 m 1 Ak 0 k z z z z z z) fun a k=>sv k z (r_ldB ta58 m 2 Ah 0 k z z z z z z) fun a k=>oE h fun Ct Az h=>cE k m call109 z z z (c_spec_l15Cheap fu _ _ (show rd _ _ [I r1.fWay,I r1.fPallet.fW,I r1.fPallet.fD,I r1.fPallet.fH,I r1.fPallet.fGram,I r1.fClasses,v9,Aj,I r1.fMaster,Ai] (r1:Request) from ⟨_,_,_,_,_,_,z,z,(Enc.rd_agr Ae (m.a00 (Enc.rd_lt Ae))),(Enc.rd_agr Ac (m.a00 (Enc.rd_lt Ac))),(Enc.rd_agr Ad (m.a00 (Enc.rd_lt Ad)))⟩) (show rd _ _ [Af,Ag] (x5:Plan) from ⟨_,_,_,_,z,z,(Enc.rd_agr Aa (m.a00 (Enc.rd_lt Aa))),(Enc.rd_agr Ab (m.a00 (Enc.rd_lt Ab)))⟩) Az) fun Cp e a k m=>pN 2 k z fun a k=>nn (cI h k z (fun Be h=>?_) fun Be h=>?_))
   · refine wr (pN 1 k z fun a k=>?_)
     have k:=k.keep [4] z
     refine nn (wp_ret (rt_block (rt_then ?_)))
     refine fS h k m z z
   refine wr (sv k z (r_ldB ta38 m 1 Ak 0 k z z z z z z) fun a k=>sv k z (r_ldB ta58 m 2 Ah 0 k z z z z z z) fun a k=>oE h fun Cb Bn h=>cE k m call110 z z z (c_spec_l15Inside fu _ _ (show rd _ _ [I r1.fWay,I r1.fPallet.fW,I r1.fPallet.fD,I r1.fPallet.fH,I r1.fPallet.fGram,I r1.fClasses,v9,Aj,I r1.fMaster,Ai] (r1:Request) from ⟨_,_,_,_,_,_,z,z,(Enc.rd_agr Ae (m.a00 (Enc.rd_lt Ae))),(Enc.rd_agr Ac (m.a00 (Enc.rd_lt Ac))),(Enc.rd_agr Ad (m.a00 (Enc.rd_lt Ad)))⟩) (show rd _ _ [Af,Ag] (x5:Plan) from ⟨_,_,_,_,z,z,(Enc.rd_agr Aa (m.a00 (Enc.rd_lt Aa))),(Enc.rd_agr Ab (m.a00 (Enc.rd_lt Ab)))⟩) Bn) fun Cr e a k m=>pN 2 k z fun a k=>?_)
   have k:=k.keep [2,3,39] z
   refine nn (cI h k z (fun Bs h=>?_) fun Bs h=>?_)
   · refine wr (pN 1 k z fun a k=>nn (wp_ret (rt_block (rt_then ?_))))
     refine fS h k m z z
   refine wr (sv k z (r_ldB ta38 m 1 Ak 0 k z z z z z z) fun a k=>sv k z (r_ldB ta58 m 2 Ah 0 k z z z z z z) fun a k=>oE h fun Bz Ba h=>cE k m call111 z z z (c_spec_l15Apart fu _ _ (show rd _ _ [I r1.fWay,I r1.fPallet.fW,I r1.fPallet.fD,I r1.fPallet.fH,I r1.fPallet.fGram,I r1.fClasses,v9,Aj,I r1.fMaster,Ai] (r1:Request) from ⟨_,_,_,_,_,_,z,z,(Enc.rd_agr Ae (m.a00 (Enc.rd_lt Ae))),(Enc.rd_agr Ac (m.a00 (Enc.rd_lt Ac))),(Enc.rd_agr Ad (m.a00 (Enc.rd_lt Ad)))⟩) (show rd _ _ [Af,Ag] (x5:Plan) from ⟨_,_,_,_,z,z,(Enc.rd_agr Aa (m.a00 (Enc.rd_lt Aa))),(Enc.rd_agr Ab (m.a00 (Enc.rd_lt Ab)))⟩) Ba) fun Ca e a k m=>pN 2 k z fun a k=>nn (cI h k z (fun Bp h=>?_) fun Bp h=>?_))
   · refine wr (pN 1 k z fun a k=>nn (wp_ret (rt_block (rt_then ?_))))
     refine fS h k m z z
   refine wr (sv k z (r_ldB ta38 m 1 Ak 0 k z z z z z z) fun a k=>sv k z (r_ldB ta58 m 2 Ah 0 k z z z z z z) fun a k=>oE h fun Ci Aw h=>cE k m call112 z z z (c_spec_l15Pallets fu _ _ (show rd _ _ [I r1.fWay,I r1.fPallet.fW,I r1.fPallet.fD,I r1.fPallet.fH,I r1.fPallet.fGram,I r1.fClasses,v9,Aj,I r1.fMaster,Ai] (r1:Request) from ⟨_,_,_,_,_,_,z,z,(Enc.rd_agr Ae (m.a00 (Enc.rd_lt Ae))),(Enc.rd_agr Ac (m.a00 (Enc.rd_lt Ac))),(Enc.rd_agr Ad (m.a00 (Enc.rd_lt Ad)))⟩) (show rd _ _ [Af,Ag] (x5:Plan) from ⟨_,_,_,_,z,z,(Enc.rd_agr Aa (m.a00 (Enc.rd_lt Aa))),(Enc.rd_agr Ab (m.a00 (Enc.rd_lt Ab)))⟩) Aw) fun Cv e a k m=>pN 2 k z fun a k=>nn ?_)
   refine cI h k z (fun Br h=>?_) fun Br h=>?_
   · refine wr (pN 1 k z fun a k=>nn (wp_ret (rt_block (rt_then ?_))))
     refine fS h k m z z
   refine wp_skip (nm_block (nm_then ?_))
   refine wr (pN 1 k z fun a k=>nn (wp_ret (fS h k m z z)))
 refine wr (sv k z (r_ldB ta58 m 0 Ah 0 k z z z z z z) fun a k=>oE h fun Bd Bk h=>cE k m call104 z z z (c_spec_PlanOk fu _ (show rd _ _ [Af,Ag] (x5:Plan) from ⟨_,_,_,_,z,z,(Enc.rd_agr Aa (m.a00 (Enc.rd_lt Aa))),(Enc.rd_agr Ab (m.a00 (Enc.rd_lt Ab)))⟩) Bk) fun Cd e a k m=>pN 2 k z fun a k=>bsplit (!Bd) (fun Al=>?_) (fun Al=>?_))
 · have h:=bif_t Al h
   refine rB k 12 z Al fun k=>pN 3 k z fun a k=>nn (wp_cond_true (k.ev z) (wr (pN 1 k z fun a k=>nn (wp_ret (rt_then ?_)))))
   refine fS h k m z z
 have h:=bif_f Al h
 refine rB k 12 z Al fun k=>sv k z (r_ldB ta58 m 0 Ah 0 k z z z z z z) fun a k=>oE h fun Cq Bh h=>cE k m call105 z z z (c_spec_l15Empty fu _ (show rd _ _ [Af,Ag] (x5:Plan) from ⟨_,_,_,_,z,z,(Enc.rd_agr Aa (m.a00 (Enc.rd_lt Aa))),(Enc.rd_agr Ab (m.a00 (Enc.rd_lt Ab)))⟩) Bh) fun Bv e a k m=>pN 1 k z fun a k=>nn (cI h k z (fun Bj h=>?_) fun Bj h=>?_)
 · refine wr (pN 1 k z fun a k=>nn (wp_ret (rt_then ?_)))
   refine fS h k m z z
 refine wp_skip (nm_then ?_)
 exact ⟨k.keep [2,3] z,m.sel [1,0] z (by decide),h⟩
theorem c_spec_Feasible (fu:Nat) {w0:World} (r1:Request) (x5:Plan) {Ai:List Value} {F3:List Nat} (Aq:rd w0 F3 Ai r1) {Ag:List Value} {F7:List Nat} (Ao:rd w0 F7 Ag x5) {r:Bool}
    (h:d_spec_Feasible fu r1 x5 = some r) :
    Calls Tryz.prog 37 #[.agg Ai.toArray,.agg Ag.toArray] w0 fun e w=>e = .returned (.bool (r)) ∧ Ext [] w0 w:=by
 refine enter (vs:=[_,_]) func37 z ntmps37 z fun a k=>?_
 have m:=St.start w0
 obtain ⟨v9,As,Ae,Az,Aj,Bb,rfl,rfl,Ak,Ac,Ah⟩:=Aq
 obtain ⟨Ab,Ax,Ad,At,rfl,rfl,Aa,Af⟩:=Ao
 unfold d_spec_Feasible at h
 refine wr (s_box (cs:=[I r1.fWay,I r1.fPallet.fW,I r1.fPallet.fD,I r1.fPallet.fH,I r1.fPallet.fGram,I r1.fClasses,v9,Ae,I r1.fMaster,Aj]) m k z z z z z z fun Aw Ar a k m e Ap=>s_box (cs:=[Ab,Ad]) m k z z z z z z fun Ba Av a k m e Am=>pN 1 k z fun a k=>nn (wr (sv k z (r_ldB ta38 m 1 Ap 0 k z z z z z z) fun a k=>sv k z (r_ldB ta58 m 0 Am 0 k z z z z z z) fun a k=>oE h fun Au Al h=>?_)))
 refine cE k m call33 z z z (c_spec_Check fu _ _ (show rd _ _ [I r1.fWay,I r1.fPallet.fW,I r1.fPallet.fD,I r1.fPallet.fH,I r1.fPallet.fGram,I r1.fClasses,v9,Ae,I r1.fMaster,Aj] (r1:Request) from ⟨_,_,_,_,_,_,z,z,(Enc.rd_agr Ak (m.a00 (Enc.rd_lt Ak))),(Enc.rd_agr Ac (m.a00 (Enc.rd_lt Ac))),(Enc.rd_agr Ah (m.a00 (Enc.rd_lt Ah)))⟩) (show rd _ _ [Ab,Ad] (x5:Plan) from ⟨_,_,_,_,z,z,(Enc.rd_agr Aa (m.a00 (Enc.rd_lt Aa))),(Enc.rd_agr Af (m.a00 (Enc.rd_lt Af)))⟩) Al) fun Ay e a k m=>pN 2 k z fun a k=>nn (wp_ret (fS h k m z z))

end Go.Proofs.YtkkfmjpbiimkbaaGreat
