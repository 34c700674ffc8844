/- FnExactFeasible: the walks of functions that it reaches (ExactFeasibleBWs,part 3). Printed by gen.py. -/
import Derived.Test.YtkkfmjpbiimkbaaGreatExactFeasibleBWs2
set_option maxRecDepth 20000
set_option linter.unusedSimpArgs false
set_option linter.unusedVariables false
namespace Go.Proofs.YtkkfmjpbiimkbaaGreat
open Go Go.RowKit
open Enc (rd ow)
open Arg (argv)
open Ret (retv)
open Go.Proofs.Tryz

theorem c_spec_l15Cheap (fu:Nat) {w0:World} (r1:Request) (x5:Plan) {Ax:List Value} {F3:List Nat} (Bf:rd w0 F3 Ax r1) {Ay:List Value} {F7:List Nat} (Bm:rd w0 F7 Ay x5) {r:Bool}
    (h:d_spec_l15Cheap fu r1 x5 = some r) :
    Calls Tryz.prog 109 #[.agg Ax.toArray,.agg Ay.toArray] w0 fun e w=>e = .returned (.bool (r)) ∧ Ext [] w0 w:=by
 refine enter (vs:=[_,_]) func109 z ntmps109 z fun a k=>?_
 have m:=St.start w0
 obtain ⟨v9,Ct,At,Ch,Au,Cn,rfl,rfl,Ao,Am,Ak⟩:=Bf
 obtain ⟨Bp,Cp,Bu,Cj,rfl,rfl,Ae,Cy⟩:=Bm
 unfold d_spec_l15Cheap at h
 refine wr (s_box (cs:=[I r1.fWay,I r1.fPallet.fW,I r1.fPallet.fD,I r1.fPallet.fH,I r1.fPallet.fGram,I r1.fClasses,v9,At,I r1.fMaster,Au]) m k z z z z z z fun Ag Ap a k m e Bj=>s_box (cs:=[Bp,Bu]) m k z z z z z z fun Af Ar a k m e As=>pN 1 k z fun a k=>nn (wp_seq (wr (pN 1 k z fun a k=>nn (wp_block (c_loop (fun n a w=>∃ (Ad:Int),K 39 [(2,.pointer (some (⟨Ag,0,none⟩:Addr))),(3,.pointer (some (⟨Af,0,none⟩:Addr))),(5,I Ad)] a ∧ St [] w0 w [([Ag],Ap),([Af],Ar)] ∧ d_spec_l15Cheap_L1 fu r1 x5 n Ad = some r) ?_ ?_ fu _ _ ?_))))))
 · rintro a w ⟨_,_,_,h⟩
   exact nS h
 · rintro Az a Cl ⟨Ad,k,m,h⟩
   rw [d_spec_l15Cheap_L1_s] at h
   unfold d_spec_l15Cheap_L1_B at h
   refine wp_seq (wr (pN 1 k z fun a k=>sv k z (r_fa fa58_0 k z z) fun a k=>sv k z (r_ldb t155 m 1 As 0 k z z z z z) fun a k=>sv k z (r_len (α:=Carton) Ae k underlying55 z z) fun a k=>pN 1 k z fun a k=>nn (cI h k z (fun Bh h=>?_) fun Bh h=>?_)))
   · refine wp_skip (nm_then ?_)
     refine c_cut (fun a w=>K 39 [(2,.pointer (some (⟨Ag,0,none⟩:Addr))),(3,.pointer (some (⟨Af,0,none⟩:Addr))),(5,I Ad)] a ∧ St [] w0 w [([Ag],Ap),([Af],Ar)] ∧ d_spec_l15Cheap_J1 fu (d_spec_l15Cheap_L1 fu r1 x5 Az) Ad = some r) ?_ ?_
     · rintro a Db ⟨k,m,h⟩
       unfold d_spec_l15Cheap_J1 at h
       refine wp_region_lit (pN 3 k z fun a k=>nn ?_)
       exact ⟨w64 (Ad + 1),k.keep [2,3,5] z,m.sel [0,1] z (by decide),h⟩
     refine wp_block (c_cut (fun a w=>∃ (Ac:Typ) (Ai:Nat) (Aq:World) (Al:Bool),K 39 [(2,.pointer (some (⟨Ag,0,none⟩:Addr))),(3,.pointer (some (⟨Af,0,none⟩:Addr))),(5,I Ad),(6,.pointer (some (⟨Ai,0,none⟩:Addr))),(7,.bool (Al))] a ∧ St [] w0 w [([Ag],Ap),([Af],Ar),([Ai],Aq)] ∧ bx Aq Ai [I Ac.fId,I Ac.fW,I Ac.fH,I Ac.fD,I Ac.fTare,I Ac.fGram,I Ac.fCost] 79 ∧ d_spec_l15Cheap_J2 fu (d_spec_l15Cheap_L1 fu r1 x5 Az) x5 Ad Ac Al = some r) ?_ ?_)
     · rintro a Cs ⟨Ac,Ai,Aq,Al,k,m,Bw,h⟩
       unfold d_spec_l15Cheap_J2 at h
       refine wp_seq (d_go [] mixo m z fun Bn hMd=>?_)
       have m:=hMd
       have s:=Ext.refl ([]:List Nat) Bn
       refine dN [0,1,2] 3 z k (by kernel_rfl) z s (fun _ _ _ _ _=>id) fun a k=>bsplit (!Al) (fun Ah=>?_) (fun Ah=>?_)
       · have h:=bif_t Ah h
         refine rB k 28 z Ah fun k=>dN [3,4,5,6,7,8,9,10,11,12] 10 z k (by kernel_rfl) z s (fun _ _ _ _ _=>id) fun a k=>d_done (by kernel_rfl) ((nm_then ?_))
         refine wp_cond_true (k.ev z) (wr (pN 1 k z fun a k=>nn (wp_ret (rt_block (rt_then (rt_then (rt_block (rt_then ?_))))))))
         refine fS h k m z z
       have h:=bif_f Ah h
       refine rB k 28 z Ah fun k=>dN [7] 1 z k (by kernel_rfl) z s (fun _ _ _ _ _=>id) fun a k=>dt k 3 z (by kernel_rfl) z s (fun _ _ _=>id) (fun w s=>r_fa fa79_0 k z z) fun a k=>dt k 4 z (by kernel_rfl) z s (fun _ _ _=>id) (fun w s=>r_ld1 t13 (r:=[]) (Bw.at ((hMd.step s).a 2 z) 0 1 z z z) k z z) fun a k=>dt k 5 z (by kernel_rfl) z s (fun _ _ _=>id) (fun w s=>r_fa fa58_0 k z z) fun a k=>dt k 6 z (by kernel_rfl) z s (fun _ _ _=>id) (fun w s=>r_ld1 t155 (r:=[]) (As.at ((hMd.step s).a 1 z) 0 1 z z z) k z z) fun a k=>oE h fun Co Av h=>dt k 8 z (by kernel_rfl) z s (fun _ _ _=>id) (fun w s=>r_ixa Ae Av k ts55 z z z) fun a k=>dt k 9 z (by kernel_rfl) z s (fun _ _ _=>id) (fun w s=>r_fa fa83_0 k z z) fun a k=>?_
       obtain ⟨Ci,Ce,Cm,Br,Ca,Cd⟩:=rd_get Ae (ix_some Av).2.2
       obtain ⟨Cx,_,rfl,rfl,Cg⟩:=Br
       refine dt k 10 z (by kernel_rfl) z s (fun _ _ _=>id) (fun w s=>r_ld1 t13 ((Ca.agr ((hMd.step s).a00 (Enc.rd_lt Ae)) Cd).fld 0 1 (Nat.le_of_ble_eq_true z)) k z z) fun a k=>dN [11,12] 2 z k (by kernel_rfl) z s (fun _ _ _ _ _=>id) fun a k=>d_done (by kernel_rfl) ((nm_then ?_))
       refine cI h k z (fun Bl h=>?_) fun Bl h=>?_
       · refine wr (pN 1 k z fun a k=>nn (wp_ret (rt_block (rt_then (rt_then (rt_block (rt_then ?_)))))))
         refine fS h k m z z
       refine wp_skip (nm_block (nm_then ?_))
       exact ⟨k.keep [2,3,5] z,m.sel [0,1] z (by decide),h⟩
     refine d_go [] mixo m z fun Cb hMd=>?_
     have m:=hMd
     have s:=Ext.refl ([]:List Nat) Cb
     refine dN [3] 1 z k (by kernel_rfl) z s (fun _ _ _ _ _=>id) fun a k=>dt k 0 z (by kernel_rfl) z s (fun _ _ _=>id) (fun w s=>r_ldA ta38 (Bj.at ((hMd.step s).a 0 z) 0 10 z z z) z k z z) fun a k=>dt k 1 z (by kernel_rfl) z s (fun _ _ _=>id) (fun w s=>r_fa fa58_0 k z z) fun a k=>dt k 2 z (by kernel_rfl) z s (fun _ _ _=>id) (fun w s=>r_ld1 t155 (r:=[]) (As.at ((hMd.step s).a 1 z) 0 1 z z z) k z z) fun a k=>oE h fun Cw Aw h=>dt k 4 z (by kernel_rfl) z s (fun _ _ _=>id) (fun w s=>r_ixa Ae Aw k ts55 z z z) fun a k=>dt k 5 z (by kernel_rfl) z s (fun _ _ _=>id) (fun w s=>r_fa fa83_2 k z z) fun a k=>?_
     obtain ⟨Cq,Cv,Cf,Bo,Ba,Bv⟩:=rd_get Ae (ix_some Aw).2.2
     obtain ⟨Cu,_,rfl,rfl,Aj⟩:=Bo
     refine dt k 6 z (by kernel_rfl) z s (fun _ _ _=>id) (fun w s=>r_ld1 t163 ((Ba.agr ((hMd.step s).a00 (Enc.rd_lt Ae)) Bv).fld 2 1 (Nat.le_of_ble_eq_true z)) k z z) fun a k=>d_two 7 11 (by kernel_rfl) z z ?_ ?_ 
     · refine oE h fun Aa Bg h=>cE k m call204 z z z (c_spec_Cheapest fu _ _ (show rd _ _ [I r1.fWay,I r1.fPallet.fW,I r1.fPallet.fD,I r1.fPallet.fH,I r1.fPallet.fGram,I r1.fClasses,v9,At,I r1.fMaster,Au] (r1:Request) from ⟨_,_,_,_,_,_,z,z,(Enc.rd_agr Ao (m.a00 (Enc.rd_lt Ao))),(Enc.rd_agr Am (m.a00 (Enc.rd_lt Am))),(Enc.rd_agr Ak (m.a00 (Enc.rd_lt Ak)))⟩) (Enc.rd_agr Aj (m.a00 (Enc.rd_lt Aj))) Bg) fun Da e a k m=>?_
       have s:=s.trans e (by simp)
       refine wpList_nil ⟨s,?_⟩
       refine dN [8,9,10] 3 z k (by kernel_rfl) z s (fun _ _ _ _ _=>id) fun a k=>d_one 11 (by kernel_rfl) z (s_allocN (cs:=[I 0,I 0,I 0,I 0,I 0,I 0,I 0]) m k zeroValue79 z z z z z fun Bq Cz a k m e Bz Bc=>?_)
       have Bd:=lo1 (Nat.le_trans s.size Bc)
       have s:=s.trans e (by simp)
       refine wpList_nil ⟨s,?_⟩
       refine d_one 12 (by kernel_rfl) z (s_stb (cs':=[I Aa.1.fId,I Aa.1.fW,I Aa.1.fH,I Aa.1.fD,I Aa.1.fTare,I Aa.1.fGram,I Aa.1.fCost]) sizeOf79 m 0 Bz 0 k z z z z z z z z z z z fun Bx a k e m Be=>?_)
       have s:=s.trans e (fun y hy=>Or.inr (Bd y hy))
       refine wpList_nil ⟨s,?_⟩
       refine dN [13] 1 z k (by kernel_rfl) z s (fun _ _ _ _ _=>id) fun a k=>d_done (by kernel_rfl) ((nm_then ?_))
       exact ⟨Aa.1,Bq,Bx,Aa.2,k.keep [2,3,5,6,7] z,m.sel [1,2,0] z (by decide),Be,h⟩
     refine s_allocN (cs:=[I 0,I 0,I 0,I 0,I 0,I 0,I 0]) m k zeroValue79 z z z z z fun Bt Cr a k m e By Bs=>?_
     have Cc:=lo1 (Nat.le_trans s.size Bs)
     have s:=s.trans e (by simp)
     refine wpList_nil ⟨s,?_⟩
     refine d_one 7 (by kernel_rfl) z (oE h fun Ab Bi h=>cE k m call204 z z z (c_spec_Cheapest fu _ _ (show rd _ _ [I r1.fWay,I r1.fPallet.fW,I r1.fPallet.fD,I r1.fPallet.fH,I r1.fPallet.fGram,I r1.fClasses,v9,At,I r1.fMaster,Au] (r1:Request) from ⟨_,_,_,_,_,_,z,z,(Enc.rd_agr Ao (m.a00 (Enc.rd_lt Ao))),(Enc.rd_agr Am (m.a00 (Enc.rd_lt Am))),(Enc.rd_agr Ak (m.a00 (Enc.rd_lt Ak)))⟩) (Enc.rd_agr Aj (m.a00 (Enc.rd_lt Aj))) Bi) fun Ck e a k m=>?_)
     have s:=s.trans e (by simp)
     refine wpList_nil ⟨s,?_⟩
     refine dN [8,9,10] 3 z k (by kernel_rfl) z s (fun _ _ _ _ _=>id) fun a k=>d_one 12 (by kernel_rfl) z (s_stb (cs':=[I Ab.1.fId,I Ab.1.fW,I Ab.1.fH,I Ab.1.fD,I Ab.1.fTare,I Ab.1.fGram,I Ab.1.fCost]) sizeOf79 m 0 By 0 k z z z z z z z z z z z fun Bk a k e m Bb=>?_)
     have s:=s.trans e (fun y hy=>Or.inr (Cc y hy))
     refine wpList_nil ⟨s,?_⟩
     refine dN [13] 1 z k (by kernel_rfl) z s (fun _ _ _ _ _=>id) fun a k=>d_done (by kernel_rfl) ((nm_then ?_))
     exact ⟨Ab.1,Bt,Bk,Ab.2,k.keep [2,3,5,6,7] z,m.sel [1,2,0] z (by decide),Bb,h⟩
   refine wp_exit (ex_then (ex_then (ex_same (nm_then ?_))))
   refine wr (pN 1 k z fun a k=>nn (wp_ret (fS h k m z z)))
 exact ⟨0,k.keep [2,3,5] z,m.sel [1,0] z (by decide),h⟩
theorem c_spec_Units (fu:Nat) {w0:World} (r1:Request) {Af:List Value} {F3:List Nat} (Ai:rd w0 F3 Af r1) {r:(List Int)}
    (h:d_spec_Units fu r1 = some r) :
    Calls Tryz.prog 166 #[.agg Af.toArray] w0 fun e w=>∃ (v0:Value) (G0:List Nat),e = .returned (v0) ∧ Ext [] w0 w ∧ ow w G0 [v0] r ∧ (∀ b ∈ G0,w0.heap.size ≤ b):=by
 refine enter (vs:=[_]) func166 z ntmps166 z fun a k=>?_
 have m:=St.start w0
 obtain ⟨v5,F6,v7,F8,v9,Aw,rfl,rfl,Aa,Ac,Ab⟩:=Ai
 unfold d_spec_Units at h
 refine wr (s_box (cs:=[I r1.fWay,I r1.fPallet.fW,I r1.fPallet.fD,I r1.fPallet.fH,I r1.fPallet.fGram,I r1.fClasses,v5,v7,I r1.fMaster,v9]) m k z z z z z z fun Az Ba a k m e Ag=>pN 1 k z fun a k=>nn (wp_seq (wr (sv k z (r_ldB ta38 m 0 Ag 0 k z z z z z z) fun a k=>oE h fun As Al h=>cE k m call74 z z z (c_spec_Class fu _ (show rd _ _ [I r1.fWay,I r1.fPallet.fW,I r1.fPallet.fD,I r1.fPallet.fH,I r1.fPallet.fGram,I r1.fClasses,v5,v7,I r1.fMaster,v9] (r1:Request) from ⟨_,_,_,_,_,_,z,z,(Enc.rd_agr Aa (m.a00 (Enc.rd_lt Aa))),(Enc.rd_agr Ac (m.a00 (Enc.rd_lt Ac))),(Enc.rd_agr Ab (m.a00 (Enc.rd_lt Ab)))⟩) Al) fun Ax e a k m=>?_))))
 refine pN 1 k z fun a k=>nn (cI h k z (fun Ak h=>?_) fun Ak h=>?_)
 · refine wr (s_bs (cs:=[]) (ps:=[]) te63 m k z z z z z z z (by decide) z (by exact (List.forall_mem_nil _)) fun Am Ar At a k m e Aj=>?_)
   have Ao:=ow_bx Aj ([]:List Int) z z z
   refine pN 1 k z fun a k=>nn (wp_ret (rt_then ?_))
   cases h
   exact finR1 k z (RV.tmp k z) ⟨_,[Am],z,m.ext,(Enc.ow_agr Ao (m.a 0 z)),(m.fresh 0 z)⟩
 refine wp_skip (nm_then ?_)
 refine wr (sv k z (r_ldB ta38 m 0 Ag 0 k z z z z z z) fun a k=>oE h fun Ay Ah h=>s_call k call90 z z z z z (c_spec_l6Units fu _ (show rd _ _ [I r1.fWay,I r1.fPallet.fW,I r1.fPallet.fD,I r1.fPallet.fH,I r1.fPallet.fGram,I r1.fClasses,v5,v7,I r1.fMaster,v9] (r1:Request) from ⟨_,_,_,_,_,_,z,z,(Enc.rd_agr Aa (m.a00 (Enc.rd_lt Aa))),(Enc.rd_agr Ac (m.a00 (Enc.rd_lt Ac))),(Enc.rd_agr Ab (m.a00 (Enc.rd_lt Ab)))⟩) Ah) fun Av Aq hR=>?_)
 obtain ⟨Au,Ae,rfl,e,Ad,Ap⟩:=hR
 refine ⟨_,z,fun a k=>?_⟩
 have m:=m.new e Ae (fun b hb=>⟨Ap b hb,Enc.rd_lt (Enc.ow_rd Ad) b hb⟩) (Enc.ow_nd Ad)
 refine pN 1 k z fun a k=>nn (wp_ret ?_)
 cases h
 exact finR1 k z (RV.tmp k z) ⟨_,Ae,z,m.ext,(Enc.ow_agr Ad (m.a 0 z)),(m.fresh 0 z)⟩
theorem c_spec_GramOf (fu:Nat) {w0:World} (r1:Request) (Aj:List Int) {Ba:List Value} {F3:List Nat} (Bg:rd w0 F3 Ba r1) {v6:Value} {F7:List Nat} (Ao:rd w0 F7 [v6] Aj) {r:Int}
    (h:d_spec_GramOf fu r1 Aj = some r) :
    Calls Tryz.prog 302 #[.agg Ba.toArray,v6] w0 fun e w=>e = .returned (I r) ∧ Ext [] w0 w:=by
 refine enter (vs:=[_,_]) func302 z ntmps302 z fun a k=>?_
 have m:=St.start w0
 obtain ⟨v9,Cb,Aq,Bx,Ap,By,rfl,rfl,Ag,Ae,Ah⟩:=Bg
 unfold d_spec_GramOf at h
 refine wr (s_box (cs:=[I r1.fWay,I r1.fPallet.fW,I r1.fPallet.fD,I r1.fPallet.fH,I r1.fPallet.fGram,I r1.fClasses,v9,Aq,I r1.fMaster,Ap]) m k z z z z z z fun Af Aw a k m e Ay=>pN 1 k z fun a k=>nn (wr (sv k z (r_ldB ta38 m 0 Ay 0 k z z z z z z) fun a k=>oE h fun Au Bd h=>?_)))
 refine s_call k call166 z z z z z (c_spec_Units fu _ (show rd _ _ [I r1.fWay,I r1.fPallet.fW,I r1.fPallet.fD,I r1.fPallet.fH,I r1.fPallet.fGram,I r1.fClasses,v9,Aq,I r1.fMaster,Ap] (r1:Request) from ⟨_,_,_,_,_,_,z,z,(Enc.rd_agr Ag (m.a00 (Enc.rd_lt Ag))),(Enc.rd_agr Ae (m.a00 (Enc.rd_lt Ae))),(Enc.rd_agr Ah (m.a00 (Enc.rd_lt Ah)))⟩) Bd) fun Bz At hR=>?_
 obtain ⟨As,Am,rfl,e,Al,Bq⟩:=hR
 refine ⟨_,z,fun a k=>?_⟩
 have m:=m.new e Am (fun b hb=>⟨Bq b hb,Enc.rd_lt (Enc.ow_rd Al) b hb⟩) (Enc.ow_nd Al)
 refine pN 1 k z fun a k=>nn (wr (pN 1 k z fun a k=>nn (wp_seq (wr (pN 1 k z fun a k=>nn (wp_block (c_loop (fun n a w=>∃ (Ai:Int) (Ac:Int),K 33 [(1,v6),(2,.pointer (some (⟨Af,0,none⟩:Addr))),(5,As),(6,I Ai),(7,I Ac)] a ∧ St [] w0 w [([Af],Aw),(Am,At)] ∧ d_spec_GramOf_L1 fu r1 Aj Au n Ai Ac = some r) ?_ ?_ fu _ _ ?_)))))))
 · rintro a w ⟨_,_,_,_,h⟩
   exact nS h
 · rintro Ax a Ca ⟨Ai,Ac,k,m,h⟩
   rw [d_spec_GramOf_L1_s] at h
   unfold d_spec_GramOf_L1_B at h
   refine wp_seq (wr (pN 2 k z fun a k=>sv k z (r_len (α:=Int) Ao k underlying63 z z) fun a k=>pN 1 k z fun a k=>nn (cI h k z (fun Bl h=>?_) fun Bl h=>?_)))
   · refine wp_skip (nm_then ?_)
     refine c_cut (fun a w=>∃ (Ar:Int),K 33 [(1,v6),(2,.pointer (some (⟨Af,0,none⟩:Addr))),(5,As),(6,I Ar),(7,I Ac)] a ∧ St [] w0 w [([Af],Aw),(Am,At)] ∧ d_spec_GramOf_J1 fu (d_spec_GramOf_L1 fu r1 Aj Au Ax) Ac Ar = some r) ?_ ?_
     · rintro a Bv ⟨Ar,k,m,h⟩
       unfold d_spec_GramOf_J1 at h
       refine wp_region_lit (pN 3 k z fun a k=>nn ?_)
       exact ⟨Ar,w64 (Ac + 1),k.keep [1,2,5,6,7] z,m.sel [0,1] z (by decide),h⟩
     refine wp_block (c_cut (fun a w=>∃ (Aa:Item) (Ak:Nat) (Av:World),K 33 [(1,v6),(2,.pointer (some (⟨Af,0,none⟩:Addr))),(5,As),(6,I Ai),(7,I Ac),(8,.pointer (some (⟨Ak,0,none⟩:Addr)))] a ∧ St [] w0 w [([Af],Aw),(Am,At),([Ak],Av)] ∧ bx Av Ak [I Aa.fId,I Aa.fW,I Aa.fH,I Aa.fD,I Aa.fGram,I Aa.fClass,I Aa.fCount] 158 ∧ d_spec_GramOf_J2 fu (d_spec_GramOf_L1 fu r1 Aj Au Ax) Ai Ac Aa = some r) ?_ ?_)
     · rintro a Bw ⟨Aa,Ak,Av,k,m,Bj,h⟩
       unfold d_spec_GramOf_J2 at h
       refine wp_region_lit (pN 1 k z fun a k=>sv k z (r_fa fa158_4 k z z) fun a k=>sv k z (r_ldb t13 m 2 Bj 4 k z z z z z) fun a k=>pN 2 k z fun a k=>wpList_nil (nm_block (nm_then ?_)))
       exact ⟨w64 (Ai + Aa.fGram),k.keep [1,2,5,6,7] z,m.sel [0,1] z (by decide),h⟩
     refine d_go [] mixo m z fun Bc hMd=>?_
     have m:=hMd
     have s:=Ext.refl ([]:List Nat) Bc
     refine dN [1,2,3] 3 z k (by kernel_rfl) z s (fun _ _ _ _ _=>id) fun a k=>dt k 0 z (by kernel_rfl) z s (fun _ _ _=>id) (fun w s=>r_ldA ta38 (Ay.at ((hMd.step s).a 0 z) 0 10 z z z) z k z z) fun a k=>oE h fun Cf Az h=>dt k 4 z (by kernel_rfl) z s (fun _ _ _=>id) (fun w s=>r_ixa Ao Az k ts63 z z z) fun a k=>dt k 5 z (by kernel_rfl) z s (fun _ _ _=>id) (fun w s=>r_lde1 Ao ((hMd.step s).a00 (Enc.rd_lt Ao)) Az 0 t13 k z z z z) fun a k=>d_two 6 10 (by kernel_rfl) z z ?_ ?_ 
     · refine oE h fun Ab Bk h=>cE k m call168 z z z (c_spec_l6Item fu _ _ _ (show rd _ _ [I r1.fWay,I r1.fPallet.fW,I r1.fPallet.fD,I r1.fPallet.fH,I r1.fPallet.fGram,I r1.fClasses,v9,Aq,I r1.fMaster,Ap] (r1:Request) from ⟨_,_,_,_,_,_,z,z,(Enc.rd_agr Ag (m.a00 (Enc.rd_lt Ag))),(Enc.rd_agr Ae (m.a00 (Enc.rd_lt Ae))),(Enc.rd_agr Ah (m.a00 (Enc.rd_lt Ah)))⟩) (Enc.rd_agr (Enc.ow_rd Al) (m.a 1 z)) Bk) fun Cg e a k m=>?_
       have s:=s.trans e (by simp)
       refine wpList_nil ⟨s,?_⟩
       refine dN [7,8,9] 3 z k (by kernel_rfl) z s (fun _ _ _ _ _=>id) fun a k=>d_one 10 (by kernel_rfl) z (s_allocN (cs:=[I 0,I 0,I 0,I 0,I 0,I 0,I 0]) m k zeroValue158 z z z z z fun Bb Cc a k m e Bo Bm=>?_)
       have Bp:=lo1 (Nat.le_trans s.size Bm)
       have s:=s.trans e (by simp)
       refine wpList_nil ⟨s,?_⟩
       refine d_one 11 (by kernel_rfl) z (s_stb (cs':=[I Ab.1.fId,I Ab.1.fW,I Ab.1.fH,I Ab.1.fD,I Ab.1.fGram,I Ab.1.fClass,I Ab.1.fCount]) sizeOf158 m 0 Bo 0 k z z z z z z z z z z z fun Bu a k e m Bt=>?_)
       have s:=s.trans e (fun y hy=>Or.inr (Bp y hy))
       refine wpList_nil ⟨s,?_⟩
       refine dN [12] 1 z k (by kernel_rfl) z s (fun _ _ _ _ _=>id) fun a k=>d_done (by kernel_rfl) ((nm_then ?_))
       exact ⟨Ab.1,Bb,Bu,k.keep [1,2,5,6,7,8] z,m.sel [1,2,0] z (by decide),Bt,h⟩
     refine s_allocN (cs:=[I 0,I 0,I 0,I 0,I 0,I 0,I 0]) m k zeroValue158 z z z z z fun Bn Cd a k m e Bh Be=>?_
     have Bs:=lo1 (Nat.le_trans s.size Be)
     have s:=s.trans e (by simp)
     refine wpList_nil ⟨s,?_⟩
     refine d_one 6 (by kernel_rfl) z (oE h fun Ad Bi h=>cE k m call168 z z z (c_spec_l6Item fu _ _ _ (show rd _ _ [I r1.fWay,I r1.fPallet.fW,I r1.fPallet.fD,I r1.fPallet.fH,I r1.fPallet.fGram,I r1.fClasses,v9,Aq,I r1.fMaster,Ap] (r1:Request) from ⟨_,_,_,_,_,_,z,z,(Enc.rd_agr Ag (m.a00 (Enc.rd_lt Ag))),(Enc.rd_agr Ae (m.a00 (Enc.rd_lt Ae))),(Enc.rd_agr Ah (m.a00 (Enc.rd_lt Ah)))⟩) (Enc.rd_agr (Enc.ow_rd Al) (m.a 2 z)) Bi) fun Ce e a k m=>?_)
     have s:=s.trans e (by simp)
     refine wpList_nil ⟨s,?_⟩
     refine dN [7,8,9] 3 z k (by kernel_rfl) z s (fun _ _ _ _ _=>id) fun a k=>d_one 11 (by kernel_rfl) z (s_stb (cs':=[I Ad.1.fId,I Ad.1.fW,I Ad.1.fH,I Ad.1.fD,I Ad.1.fGram,I Ad.1.fClass,I Ad.1.fCount]) sizeOf158 m 0 Bh 0 k z z z z z z z z z z z fun Bf a k e m Br=>?_)
     have s:=s.trans e (fun y hy=>Or.inr (Bs y hy))
     refine wpList_nil ⟨s,?_⟩
     refine dN [12] 1 z k (by kernel_rfl) z s (fun _ _ _ _ _=>id) fun a k=>d_done (by kernel_rfl) ((nm_then ?_))
     exact ⟨Ad.1,Bn,Bf,k.keep [1,2,5,6,7,8] z,m.sel [1,2,0] z (by decide),Br,h⟩
   refine wp_exit (ex_then (ex_then (ex_same (nm_then ?_))))
   refine wr (pN 2 k z fun a k=>nn (wp_ret (fS h k m z z)))
 exact ⟨0,0,k.keep [1,2,5,6,7] z,m.sel [1,0] z (by decide),h⟩
theorem c_spec_Gross (fu:Nat) {w0:World} (r1:Request) (x5:Carton) {Ap:List Value} {F3:List Nat} (Au:rd w0 F3 Ap r1) {Ak:List Value} {F7:List Nat} (Az:rd w0 F7 Ak x5) {r:Int}
    (h:d_spec_Gross fu r1 x5 = some r) :
    Calls Tryz.prog 269 #[.agg Ap.toArray,.agg Ak.toArray] w0 fun e w=>e = .returned (I r) ∧ Ext [] w0 w:=by
 refine enter (vs:=[_,_]) func269 z ntmps269 z fun a k=>?_
 have m:=St.start w0
 obtain ⟨v9,Bk,Ag,Bh,Af,Bi,rfl,rfl,Ac,Ab,Ad⟩:=Au
 obtain ⟨Bd,_,rfl,rfl,Ai⟩:=Az
 unfold d_spec_Gross at h
 refine wr (s_box (cs:=[I r1.fWay,I r1.fPallet.fW,I r1.fPallet.fD,I r1.fPallet.fH,I r1.fPallet.fGram,I r1.fClasses,v9,Ag,I r1.fMaster,Af]) m k z z z z z z fun Al Ay a k m e Ah=>s_box (cs:=[I x5.fType,I x5.fGroup,Bd]) m k z z z z z z fun Ao Ax a k m e Am=>pN 1 k z fun a k=>nn (wr (sv k z (r_ldB ta38 m 1 Ah 0 k z z z z z z) fun a k=>sv k z (r_fa fa83_0 k z z) fun a k=>sv k z (r_ldb t13 m 0 Am 0 k z z z z z) fun a k=>oE h fun Aa Ar h=>?_)))
 refine cE k m call184 z z z (c_spec_TypeById fu _ _ (show rd _ _ [I r1.fWay,I r1.fPallet.fW,I r1.fPallet.fD,I r1.fPallet.fH,I r1.fPallet.fGram,I r1.fClasses,v9,Ag,I r1.fMaster,Af] (r1:Request) from ⟨_,_,_,_,_,_,z,z,(Enc.rd_agr Ac (m.a00 (Enc.rd_lt Ac))),(Enc.rd_agr Ab (m.a00 (Enc.rd_lt Ab))),(Enc.rd_agr Ad (m.a00 (Enc.rd_lt Ad)))⟩) Ar) fun Bm e a k m=>pN 3 k z fun a k=>s_alloc (cs:=[I 0,I 0,I 0,I 0,I 0,I 0,I 0]) m k zeroValue79 z z z z z fun Aj Bg a k m e Aw=>?_
 refine s_stb (cs':=[I Aa.1.fId,I Aa.1.fW,I Aa.1.fH,I Aa.1.fD,I Aa.1.fTare,I Aa.1.fGram,I Aa.1.fCost]) sizeOf79 m 0 Aw 0 k z z z z z z z z z z z fun As a k e m Bb=>pN 1 k z fun a k=>nn (c_cut (fun a w=>K 28 [(2,.pointer (some (⟨Al,0,none⟩:Addr))),(3,.pointer (some (⟨Ao,0,none⟩:Addr))),(5,.pointer (some (⟨Aj,0,none⟩:Addr)))] a ∧ St [] w0 w [([Al],Ay),([Ao],Ax),([Aj],As)] ∧ d_spec_Gross_J1 fu r1 x5 Aa = some r) ?_ ?_)
 · rintro a Be ⟨k,m,h⟩
   unfold d_spec_Gross_J1 at h
   refine wp_seq (d_go [] mixo m z fun Ba hMd=>?_)
   have m:=hMd
   have s:=Ext.refl ([]:List Nat) Ba
   refine dt k 0 z (by kernel_rfl) z s (fun _ _ _=>id) (fun w s=>r_fa fa79_4 k z z) fun a k=>dt k 1 z (by kernel_rfl) z s (fun _ _ _=>id) (fun w s=>r_ld1 t13 (r:=[]) (Bb.at ((hMd.step s).a 2 z) 4 1 z z z) k z z) fun a k=>dt k 2 z (by kernel_rfl) z s (fun _ _ _=>id) (fun w s=>r_ldA ta38 (Ah.at ((hMd.step s).a 0 z) 0 10 z z z) z k z z) fun a k=>dt k 3 z (by kernel_rfl) z s (fun _ _ _=>id) (fun w s=>r_fa fa83_2 k z z) fun a k=>dt k 4 z (by kernel_rfl) z s (fun _ _ _=>id) (fun w s=>r_ld1 t163 (r:=[]) (Am.at ((hMd.step s).a 1 z) 2 1 z z z) k z z) fun a k=>d_one 5 (by kernel_rfl) z (oE h fun Bf At h=>?_)
   refine cE k m call302 z z z (c_spec_GramOf fu _ _ (show rd _ _ [I r1.fWay,I r1.fPallet.fW,I r1.fPallet.fD,I r1.fPallet.fH,I r1.fPallet.fGram,I r1.fClasses,v9,Ag,I r1.fMaster,Af] (r1:Request) from ⟨_,_,_,_,_,_,z,z,(Enc.rd_agr Ac (m.a00 (Enc.rd_lt Ac))),(Enc.rd_agr Ab (m.a00 (Enc.rd_lt Ab))),(Enc.rd_agr Ad (m.a00 (Enc.rd_lt Ad)))⟩) (Enc.rd_agr Ai (m.a00 (Enc.rd_lt Ai))) At) fun Bj e a k m=>?_
   have s:=s.trans e (by simp)
   refine wpList_nil ⟨s,?_⟩
   refine dN [6,7] 2 z k (by kernel_rfl) z s (fun _ _ _ _ _=>id) fun a k=>d_done (by kernel_rfl) ((nm_then ?_))
   refine wp_ret (fS h k m z z)
 refine wr (sv k z (r_ldB ta38 m 2 Ah 0 k z z z z z z) fun a k=>oE h fun Aq Av h=>cE k m call74 z z z (c_spec_Class fu _ (show rd _ _ [I r1.fWay,I r1.fPallet.fW,I r1.fPallet.fD,I r1.fPallet.fH,I r1.fPallet.fGram,I r1.fClasses,v9,Ag,I r1.fMaster,Af] (r1:Request) from ⟨_,_,_,_,_,_,z,z,(Enc.rd_agr Ac (m.a00 (Enc.rd_lt Ac))),(Enc.rd_agr Ab (m.a00 (Enc.rd_lt Ab))),(Enc.rd_agr Ad (m.a00 (Enc.rd_lt Ad)))⟩) Av) fun Bl e a k m=>pN 2 k z fun a k=>bsplit (Aq != 0) (fun Ae=>?_) (fun Ae=>?_))
 · have h:=bif_t Ae h
   refine rB k 17 z Ae fun k=>pN 3 k z fun a k=>nn (wp_cond_true (k.ev z) (wr (pN 1 k z fun a k=>nn (wp_ret (rt_then ?_)))))
   refine fS h k m z z
 have h:=bif_f Ae h
 refine rB k 17 z Ae fun k=>pN 3 k z fun a k=>nn (cI h k z (fun Bc h=>?_) fun Bc h=>?_)
 · refine wr (pN 1 k z fun a k=>nn (wp_ret (rt_then ?_)))
   refine fS h k m z z
 refine wp_skip (nm_then ?_)
 exact ⟨k.keep [2,3,5] z,m.sel [2,1,0] z (by decide),h⟩
theorem c_spec_BoxOf (fu:Nat) {w0:World} (r1:Request) (x5:Carton) {As:List Value} {F3:List Nat} (Az:rd w0 F3 As r1) {Am:List Value} {F7:List Nat} (Bh:rd w0 F7 Am x5) {r:Box}
    (h:d_spec_BoxOf fu r1 x5 = some r) :
    Calls Tryz.prog 214 #[.agg As.toArray,.agg Am.toArray] w0 fun e w=>e = .returned (.agg (Flat.e r).toArray) ∧ Ext [] w0 w:=by
 refine enter (vs:=[_,_]) func214 z ntmps214 z fun a k=>?_
 have m:=St.start w0
 obtain ⟨v9,Bu,Ah,Bo,Ag,Bs,rfl,rfl,Ac,Ab,Ad⟩:=Az
 obtain ⟨At,_,rfl,rfl,Al⟩:=Bh
 unfold d_spec_BoxOf at h
 refine wr (s_box (cs:=[I r1.fWay,I r1.fPallet.fW,I r1.fPallet.fD,I r1.fPallet.fH,I r1.fPallet.fGram,I r1.fClasses,v9,Ah,I r1.fMaster,Ag]) m k z z z z z z fun Ao Be a k m e Ai=>s_box (cs:=[I x5.fType,I x5.fGroup,At]) m k z z z z z z fun Ar Bc a k m e Aq=>s_alloc (cs:=[I 0,I 0,I 0,I 0]) m k zeroValue86 z z z z z fun Af Bd a k m e Aj=>nn (wr (sv k z (r_ldB ta38 m 2 Ai 0 k z z z z z z) fun a k=>sv k z (r_fa fa83_0 k z z) fun a k=>sv k z (r_ldb t13 m 1 Aq 0 k z z z z z) fun a k=>oE h fun Aa Bb h=>?_)))
 refine cE k m call184 z z z (c_spec_TypeById fu _ _ (show rd _ _ [I r1.fWay,I r1.fPallet.fW,I r1.fPallet.fD,I r1.fPallet.fH,I r1.fPallet.fGram,I r1.fClasses,v9,Ah,I r1.fMaster,Ag] (r1:Request) from ⟨_,_,_,_,_,_,z,z,(Enc.rd_agr Ac (m.a00 (Enc.rd_lt Ac))),(Enc.rd_agr Ab (m.a00 (Enc.rd_lt Ab))),(Enc.rd_agr Ad (m.a00 (Enc.rd_lt Ad)))⟩) Bb) fun Bn e a k m=>pN 3 k z fun a k=>s_alloc (cs:=[I 0,I 0,I 0,I 0,I 0,I 0,I 0]) m k zeroValue79 z z z z z fun Au Bq a k m e Bi=>?_
 refine s_stb (cs':=[I Aa.1.fId,I Aa.1.fW,I Aa.1.fH,I Aa.1.fD,I Aa.1.fTare,I Aa.1.fGram,I Aa.1.fCost]) sizeOf79 m 0 Bi 0 k z z z z z z z z z z z fun Bk a k e m Ak=>pN 1 k z fun a k=>nn (c_cut (fun a w=>K 32 [(2,.pointer (some (⟨Ao,0,none⟩:Addr))),(3,.pointer (some (⟨Ar,0,none⟩:Addr))),(4,.pointer (some (⟨Af,0,none⟩:Addr))),(5,.pointer (some (⟨Au,0,none⟩:Addr)))] a ∧ St [] w0 w [([Ao],Be),([Ar],Bc),([Af],Bd),([Au],Bk)] ∧ d_spec_BoxOf_J1 fu r1 x5 Aa = some r) ?_ ?_)
 · rintro a Bv ⟨k,m,h⟩
   unfold d_spec_BoxOf_J1 at h
   refine wp_seq (d_go ([Af]) mixo m z fun Bj hMd=>?_)
   have m:=hMd
   have s:=Ext.refl (([Af]):List Nat) Bj
   refine dt k 0 z (by kernel_rfl) z s (fun _ _ _=>id) (fun w s=>r_fa fa79_1 k z z) fun a k=>dt k 1 z (by kernel_rfl) z s (fun _ _ _=>id) (fun w s=>r_ld1 t13 (r:=[]) (Ak.at (hMd.az 3 2 z z z s) 1 1 z z z) k z z) fun a k=>dt k 2 z (by kernel_rfl) z s (fun _ _ _=>id) (fun w s=>r_fa fa79_3 k z z) fun a k=>dt k 3 z (by kernel_rfl) z s (fun _ _ _=>id) (fun w s=>r_ld1 t13 (r:=[]) (Ak.at (hMd.az 3 2 z z z s) 3 1 z z z) k z z) fun a k=>dt k 4 z (by kernel_rfl) z s (fun _ _ _=>id) (fun w s=>r_fa fa79_2 k z z) fun a k=>dt k 5 z (by kernel_rfl) z s (fun _ _ _=>id) (fun w s=>r_ld1 t13 (r:=[]) (Ak.at (hMd.az 3 2 z z z s) 2 1 z z z) k z z) fun a k=>?_
   refine dt k 6 z (by kernel_rfl) z s (fun _ _ _=>id) (fun w s=>r_ldA ta38 (Ai.at (hMd.az 0 2 z z z s) 0 10 z z z) z k z z) fun a k=>dt k 7 z (by kernel_rfl) z s (fun _ _ _=>id) (fun w s=>r_ldA ta83 (Aq.at (hMd.az 1 2 z z z s) 0 3 z z z) z k z z) fun a k=>d_one 8 (by kernel_rfl) z (oE h fun Ap Aw h=>?_)
   refine cE k m call269 z z z (c_spec_Gross fu _ _ (show rd _ _ [I r1.fWay,I r1.fPallet.fW,I r1.fPallet.fD,I r1.fPallet.fH,I r1.fPallet.fGram,I r1.fClasses,v9,Ah,I r1.fMaster,Ag] (r1:Request) from ⟨_,_,_,_,_,_,z,z,(Enc.rd_agr Ac (m.a00 (Enc.rd_lt Ac))),(Enc.rd_agr Ab (m.a00 (Enc.rd_lt Ab))),(Enc.rd_agr Ad (m.a00 (Enc.rd_lt Ad)))⟩) (show rd _ _ [I x5.fType,I x5.fGroup,At] (x5:Carton) from ⟨_,_,z,z,(Enc.rd_agr Al (m.a00 (Enc.rd_lt Al)))⟩) Aw) fun Bm e a k m=>?_
   have s:=s.trans e (by simp)
   refine wpList_nil ⟨s,?_⟩
   refine dt k 9 z (by kernel_rfl) z s (fun _ _ _=>id) (fun w s=>r_build bt86 k (cs:=#[I Aa.1.fW,I Aa.1.fD,I Aa.1.fH,I Ap]) (ps:=[(0,.tmp 23),(1,.tmp 25),(2,.tmp 27),(3,.tmp 30)]) z z (by kernel_rfl)) fun a k=>d_one 10 (by kernel_rfl) z (s_stb (cs':=[I Aa.1.fW,I Aa.1.fD,I Aa.1.fH,I Ap]) sizeOf86 m 2 Aj 0 k z z z z z z z z z z z fun Bt a k e m Bf=>?_)
   have s:=s.trans e (fun y hy=>Or.inl hy)
   refine wpList_nil ⟨s,?_⟩
   refine d_done (by kernel_rfl) ((nm_then ?_))
   refine wp_ret ?_
   cases h
   exact finR1 k z (RV.cA k z ta86 (Bf.at (m.a 2 z) 0 4 z z z) z) ⟨z,m.ext⟩
 refine wr (sv k z (r_ldB ta38 m 3 Ai 0 k z z z z z z) fun a k=>oE h fun Bg Ax h=>cE k m call74 z z z (c_spec_Class fu _ (show rd _ _ [I r1.fWay,I r1.fPallet.fW,I r1.fPallet.fD,I r1.fPallet.fH,I r1.fPallet.fGram,I r1.fClasses,v9,Ah,I r1.fMaster,Ag] (r1:Request) from ⟨_,_,_,_,_,_,z,z,(Enc.rd_agr Ac (m.a00 (Enc.rd_lt Ac))),(Enc.rd_agr Ab (m.a00 (Enc.rd_lt Ab))),(Enc.rd_agr Ad (m.a00 (Enc.rd_lt Ad)))⟩) Ax) fun Bp e a k m=>pN 2 k z fun a k=>bsplit (Bg != 0) (fun Ae=>?_) (fun Ae=>?_))
 · have h:=bif_t Ae h
   refine rB k 17 z Ae fun k=>pN 3 k z fun a k=>nn (wp_cond_true (k.ev z) (wr (sv k z (r_build bt86 k (cs:=#[I 0,I 0,I 0,I 0]) (ps:=[]) z z (by kernel_rfl)) fun a k=>s_stb (cs':=[I 0,I 0,I 0,I 0]) sizeOf86 m 1 Aj 0 k z z z z z z z z z z z fun Br a k e m Av=>nn (wp_ret (rt_then ?_)))))
   cases h
   exact finR1 k z (RV.cA k z ta86 (Av.at (m.a 1 z) 0 4 z z z) z) ⟨z,m.ext⟩
 have h:=bif_f Ae h
 refine rB k 17 z Ae fun k=>pN 3 k z fun a k=>nn (cI h k z (fun Ay h=>?_) fun Ay h=>?_)
 · refine wr (sv k z (r_build bt86 k (cs:=#[I 0,I 0,I 0,I 0]) (ps:=[]) z z (by kernel_rfl)) fun a k=>s_stb (cs':=[I 0,I 0,I 0,I 0]) sizeOf86 m 1 Aj 0 k z z z z z z z z z z z fun Bl a k e m Ba=>nn (wp_ret (rt_then ?_)))
   cases h
   exact finR1 k z (RV.cA k z ta86 (Ba.at (m.a 1 z) 0 4 z z z) z) ⟨z,m.ext⟩
 refine wp_skip (nm_then ?_)
 exact ⟨k.keep [2,3,4,5] z,m.sel [3,2,1,0] z (by decide),h⟩
theorem c_spec_l12Known (fu:Nat) {w0:World} (b1:Box) (Aa:Spot)  {r:Bool}
    (h:d_spec_l12Known fu b1 Aa = some r) :
    Calls Tryz.prog 268 #[.agg (Flat.e (b1)).toArray,.agg (Flat.e (Aa)).toArray] w0 fun e w=>e = .returned (.bool (r)) ∧ Ext [] w0 w:=by
 refine enter (vs:=[_,_]) func268 z ntmps268 z fun a k=>?_
 have m:=St.start w0
 unfold d_spec_l12Known at h
 refine wr (s_box (cs:=[I b1.fW,I b1.fD,I b1.fH,I b1.fGram]) m k z z z z z z fun b3 w5 a k m e Ah=>s_box (cs:=[I Aa.fPallet,I Aa.fX,I Aa.fY,I Aa.fZ]) m k z z z z z z fun b6 w9 a k m e Ag=>pN 1 k z fun a k=>nn (wr (sv k z (r_fa fa86_0 k z z) fun a k=>sv k z (r_ldb t13 m 1 Ah 0 k z z z z z) fun a k=>oE h fun Ar Ak h=>cE k m call130 z z z (c_spec_l1In fu _ _ _  Ak) fun Ay e a k m=>pN 1 k z fun a k=>bsplit (Ar) (fun Ac=>?_) (fun Ac=>?_))))
 · have h:=bif_t Ac h
   refine rB k 8 z Ac fun k=>sv k z (r_fa fa86_1 k z z) fun a k=>sv k z (r_ldb t13 m 1 Ah 1 k z z z z z) fun a k=>oE h fun Aq Al h=>cE k m call130 z z z (c_spec_l1In fu _ _ _  Al) fun Az e a k m=>pN 2 k z fun a k=>bsplit (Aq) (fun Ab=>?_) (fun Ab=>?_)
   · have h:=bif_t Ab h
     refine rB k 13 z Ab fun k=>sv k z (r_fa fa86_2 k z z) fun a k=>sv k z (r_ldb t13 m 1 Ah 2 k z z z z z) fun a k=>oE h fun As At h=>cE k m call130 z z z (c_spec_l1In fu _ _ _  At) fun Av e a k m=>pN 2 k z fun a k=>bsplit (As) (fun Ad=>?_) (fun Ad=>?_)
     · have h:=bif_t Ad h
       refine rB k 18 z Ad fun k=>sv k z (r_fa fa89_1 k z z) fun a k=>sv k z (r_ldb t13 m 0 Ag 1 k z z z z z) fun a k=>oE h fun Ao Ap h=>cE k m call130 z z z (c_spec_l1In fu _ _ _  Ap) fun Ax e a k m=>pN 2 k z fun a k=>bsplit (Ao) (fun Ae=>?_) (fun Ae=>?_)
       · have h:=bif_t Ae h
         refine rB k 23 z Ae fun k=>sv k z (r_fa fa89_2 k z z) fun a k=>sv k z (r_ldb t13 m 0 Ag 2 k z z z z z) fun a k=>oE h fun Am Ai h=>cE k m call130 z z z (c_spec_l1In fu _ _ _  Ai) fun Au e a k m=>pN 2 k z fun a k=>bsplit (Am) (fun Af=>?_) (fun Af=>?_)
         · have h:=bif_t Af h
           refine rB k 28 z Af fun k=>sv k z (r_fa fa89_3 k z z) fun a k=>sv k z (r_ldb t13 m 0 Ag 3 k z z z z z) fun a k=>oE h fun Aw Aj h=>cE k m call130 z z z (c_spec_l1In fu _ _ _  Aj) fun Ba e a k m=>pN 2 k z fun a k=>?_
           have k:=k.keep [4] z
           refine nn (wp_ret (fS h k m z z))
         have h:=bif_f Af h
         refine rB k 28 z Af fun k=>pN 5 k z fun a k=>?_
         have k:=k.keep [4] z
         refine nn (wp_ret (fS h k m z z))
       have h:=bif_f Ae h
       refine rB k 23 z Ae fun k=>pN 10 k z fun a k=>?_
       have k:=k.keep [4] z
       refine nn (wp_ret (fS h k m z z))
     have h:=bif_f Ad h
     refine rB k 18 z Ad fun k=>pN 15 k z fun a k=>?_
     have k:=k.keep [4] z
     refine nn (wp_ret (fS h k m z z))
   have h:=bif_f Ab h
   refine rB k 13 z Ab fun k=>pN 20 k z fun a k=>?_
   have k:=k.keep [4] z
   refine nn (wp_ret (fS h k m z z))
 have h:=bif_f Ac h
 refine rB k 8 z Ac fun k=>pN 25 k z fun a k=>?_
 have k:=k.keep [4] z
 refine nn (wp_ret (fS h k m z z))
theorem c_spec_Within (fu:Nat) {w0:World} (p1:Pallet) (b2:Box) (Aa:Spot)  {r:Bool}
    (h:d_spec_Within fu p1 b2 Aa = some r) :
    Calls Tryz.prog 213 #[.agg (Flat.e (p1)).toArray,.agg (Flat.e (b2)).toArray,.agg (Flat.e (Aa)).toArray] w0 fun e w=>e = .returned (.bool (r)) ∧ Ext [] w0 w:=by
 refine enter (vs:=[_,_,_]) func213 z ntmps213 z fun a k=>?_
 have m:=St.start w0
 unfold d_spec_Within at h
 refine wr (s_box (cs:=[I p1.fW,I p1.fD,I p1.fH,I p1.fGram]) m k z z z z z z fun b4 w6 a k m e Aj=>s_box (cs:=[I b2.fW,I b2.fD,I b2.fH,I b2.fGram]) m k z z z z z z fun b7 w9 a k m e Ab=>s_box (cs:=[I Aa.fPallet,I Aa.fX,I Aa.fY,I Aa.fZ]) m k z z z z z z fun Ao Am a k m e Ai=>pN 1 k z fun a k=>nn (wr (sv k z (r_ldB ta86 m 1 Ab 0 k z z z z z z) fun a k=>sv k z (r_ldB ta89 m 0 Ai 0 k z z z z z z) fun a k=>oE h fun Ak Al h=>cE k m call268 z z z (c_spec_l12Known fu (b2:Box) (Aa:Spot)  Al) fun Ap e a k m=>pN 1 k z fun a k=>bsplit (Ak) (fun Ag=>?_) (fun Ag=>?_))))
 · have h:=bif_t Ag h
   refine rB k 10 z Ag fun k=>sv k z (r_fa fa86_0 k z z) fun a k=>sv k z (r_ldb t13 m 1 Ab 0 k z z z z z) fun a k=>pN 3 k z fun a k=>bsplit (decide (b2.fW > 0)) (fun Ae=>?_) (fun Ae=>?_)
   · have h:=bif_t Ae h
     refine rB k 15 z Ae fun k=>sv k z (r_fa fa86_1 k z z) fun a k=>sv k z (r_ldb t13 m 1 Ab 1 k z z z z z) fun a k=>pN 3 k z fun a k=>bsplit (decide (b2.fD > 0)) (fun Ad=>?_) (fun Ad=>?_)
     · have h:=bif_t Ad h
       refine rB k 20 z Ad fun k=>sv k z (r_fa fa86_2 k z z) fun a k=>sv k z (r_ldb t13 m 1 Ab 2 k z z z z z) fun a k=>pN 3 k z fun a k=>bsplit (decide (b2.fH > 0)) (fun Ah=>?_) (fun Ah=>?_)
       · have h:=bif_t Ah h
         refine rB k 25 z Ah fun k=>sv k z (r_fa fa89_1 k z z) fun a k=>sv k z (r_ldb t13 m 0 Ai 1 k z z z z z) fun a k=>sv k z (r_fa fa86_0 k z z) fun a k=>sv k z (r_ldb t13 m 1 Ab 0 k z z z z z) fun a k=>pN 1 k z fun a k=>sv k z (r_fa fa33_0 k z z) fun a k=>sv k z (r_ldb t13 m 2 Aj 0 k z z z z z) fun a k=>pN 3 k z fun a k=>bsplit (decide ((w64 (Aa.fX + b2.fW)) ≤ p1.fW)) (fun Af=>?_) (fun Af=>?_)
         · have h:=bif_t Af h
           refine rB k 35 z Af fun k=>sv k z (r_fa fa89_2 k z z) fun a k=>sv k z (r_ldb t13 m 0 Ai 2 k z z z z z) fun a k=>sv k z (r_fa fa86_1 k z z) fun a k=>sv k z (r_ldb t13 m 1 Ab 1 k z z z z z) fun a k=>pN 1 k z fun a k=>sv k z (r_fa fa33_1 k z z) fun a k=>sv k z (r_ldb t13 m 2 Aj 1 k z z z z z) fun a k=>pN 3 k z fun a k=>bsplit (decide ((w64 (Aa.fY + b2.fD)) ≤ p1.fD)) (fun Ac=>?_) (fun Ac=>?_)
           · have h:=bif_t Ac h
             refine rB k 45 z Ac fun k=>sv k z (r_fa fa89_3 k z z) fun a k=>sv k z (r_ldb t13 m 0 Ai 3 k z z z z z) fun a k=>sv k z (r_fa fa86_2 k z z) fun a k=>sv k z (r_ldb t13 m 1 Ab 2 k z z z z z) fun a k=>pN 1 k z fun a k=>sv k z (r_fa fa33_2 k z z) fun a k=>sv k z (r_ldb t13 m 2 Aj 2 k z z z z z) fun a k=>pN 3 k z fun a k=>?_
             have k:=k.keep [6] z
             refine nn (wp_ret (fS h k m z z))
           have h:=bif_f Ac h
           refine rB k 45 z Ac fun k=>pN 10 k z fun a k=>?_
           have k:=k.keep [6] z
           refine nn (wp_ret (fS h k m z z))
         have h:=bif_f Af h
         refine rB k 35 z Af fun k=>pN 20 k z fun a k=>?_
         have k:=k.keep [6] z
         refine nn (wp_ret (fS h k m z z))
       have h:=bif_f Ah h
       refine rB k 25 z Ah fun k=>pN 30 k z fun a k=>?_
       have k:=k.keep [6] z
       refine nn (wp_ret (fS h k m z z))
     have h:=bif_f Ad h
     refine rB k 20 z Ad fun k=>pN 35 k z fun a k=>?_
     have k:=k.keep [6] z
     refine nn (wp_ret (fS h k m z z))
   have h:=bif_f Ae h
   refine rB k 15 z Ae fun k=>pN 40 k z fun a k=>?_
   have k:=k.keep [6] z
   refine nn (wp_ret (fS h k m z z))
 have h:=bif_f Ag h
 refine rB k 10 z Ag fun k=>pN 45 k z fun a k=>?_
 have k:=k.keep [6] z
 refine nn (wp_ret (fS h k m z z))
theorem c_spec_l15Inside (fu:Nat) {w0:World} (r1:Request) (x5:Plan) {Ap:List Value} {F3:List Nat} (Av:rd w0 F3 Ap r1) {Ah:List Value} {F7:List Nat} (Bd:rd w0 F7 Ah x5) {r:Bool}
    (h:d_spec_l15Inside fu r1 x5 = some r) :
    Calls Tryz.prog 110 #[.agg Ap.toArray,.agg Ah.toArray] w0 fun e w=>e = .returned (.bool (r)) ∧ Ext [] w0 w:=by
 refine enter (vs:=[_,_]) func110 z ntmps110 z fun a k=>?_
 have m:=St.start w0
 obtain ⟨v9,Br,As,Bn,Aq,Bo,rfl,rfl,Al,Af,Ao⟩:=Av
 obtain ⟨Bg,Bu,Ba,Bv,rfl,rfl,Aa,Ae⟩:=Bd
 unfold d_spec_l15Inside at h
 refine wr (s_box (cs:=[I r1.fWay,I r1.fPallet.fW,I r1.fPallet.fD,I r1.fPallet.fH,I r1.fPallet.fGram,I r1.fClasses,v9,As,I r1.fMaster,Aq]) m k z z z z z z fun Ag Au a k m e Am=>s_box (cs:=[Bg,Ba]) m k z z z z z z fun Ak Bh a k m e Ad=>pN 1 k z fun a k=>nn (wp_seq (wr (pN 1 k z fun a k=>nn (wp_block (c_loop (fun n a w=>∃ (Ab:Int),K 29 [(2,.pointer (some (⟨Ag,0,none⟩:Addr))),(3,.pointer (some (⟨Ak,0,none⟩:Addr))),(5,I Ab)] a ∧ St [] w0 w [([Ag],Au),([Ak],Bh)] ∧ d_spec_l15Inside_L1 fu r1 x5 n Ab = some r) ?_ ?_ fu _ _ ?_))))))
 · rintro a w ⟨_,_,_,h⟩
   exact nS h
 · rintro Bl a Bm ⟨Ab,k,m,h⟩
   rw [d_spec_l15Inside_L1_s] at h
   unfold d_spec_l15Inside_L1_B at h
   refine wp_seq (wr (pN 1 k z fun a k=>sv k z (r_fa fa58_0 k z z) fun a k=>sv k z (r_ldb t155 m 1 Ad 0 k z z z z z) fun a k=>sv k z (r_len (α:=Carton) Aa k underlying55 z z) fun a k=>pN 1 k z fun a k=>nn (cI h k z (fun Ay h=>?_) fun Ay h=>?_)))
   · refine wp_skip (nm_then ?_)
     refine wp_seq (wp_block (wp_seq (d_go [] mixo m z fun Bf hMd=>?_)))
     have m:=hMd
     have s:=Ext.refl ([]:List Nat) Bf
     refine dN [5,11] 2 z k (by kernel_rfl) z s (fun _ _ _ _ _=>id) fun a k=>dt k 0 z (by kernel_rfl) z s (fun _ _ _=>id) (fun w s=>r_fa fa38_1 k z z) fun a k=>dt k 1 z (by kernel_rfl) z s (fun _ _ _=>id) (fun w s=>r_ldA ta33 (Am.at ((hMd.step s).a 0 z) 1 4 z z z) z k z z) fun a k=>dt k 2 z (by kernel_rfl) z s (fun _ _ _=>id) (fun w s=>r_ldA ta38 (Am.at ((hMd.step s).a 0 z) 0 10 z z z) z k z z) fun a k=>dt k 3 z (by kernel_rfl) z s (fun _ _ _=>id) (fun w s=>r_fa fa58_0 k z z) fun a k=>dt k 4 z (by kernel_rfl) z s (fun _ _ _=>id) (fun w s=>r_ld1 t155 (r:=[]) (Ad.at ((hMd.step s).a 1 z) 0 1 z z z) k z z) fun a k=>oE h fun Ac Ar h=>?_
     refine dt k 6 z (by kernel_rfl) z s (fun _ _ _=>id) (fun w s=>r_ixa Aa Ar k ts55 z z z) fun a k=>?_
     obtain ⟨Bs,Bp,Bk,Bc,At,Aw⟩:=rd_get Aa (ix_some Ar).2.2
     obtain ⟨Be,_,rfl,rfl,Ai⟩:=Bc
     refine dt k 7 z (by kernel_rfl) z s (fun _ _ _=>id) (fun w s=>r_ldA ta83 (At.agr ((hMd.step s).a00 (Enc.rd_lt Aa)) Aw) z k z z) fun a k=>dt k 9 z (by kernel_rfl) z s (fun _ _ _=>id) (fun w s=>r_fa fa58_1 k z z) fun a k=>dt k 10 z (by kernel_rfl) z s (fun _ _ _=>id) (fun w s=>r_ld1 t156 (r:=[]) (Ad.at ((hMd.step s).a 1 z) 1 1 z z z) k z z) fun a k=>oE h fun Az Aj h=>dt k 12 z (by kernel_rfl) z s (fun _ _ _=>id) (fun w s=>r_ixa Ae Aj k ts56 z z z) fun a k=>dt k 13 z (by kernel_rfl) z s (fun _ _ _=>id) (fun w s=>r_lde Ae ((hMd.step s).a00 (Enc.rd_lt Ae)) Aj ta89 k z z) fun a k=>d_one 8 (by kernel_rfl) z (oE h fun Bi Bb h=>?_)
     refine cE k m call214 z z z (c_spec_BoxOf fu _ _ (show rd _ _ [I r1.fWay,I r1.fPallet.fW,I r1.fPallet.fD,I r1.fPallet.fH,I r1.fPallet.fGram,I r1.fClasses,v9,As,I r1.fMaster,Aq] (r1:Request) from ⟨_,_,_,_,_,_,z,z,(Enc.rd_agr Al (m.a00 (Enc.rd_lt Al))),(Enc.rd_agr Af (m.a00 (Enc.rd_lt Af))),(Enc.rd_agr Ao (m.a00 (Enc.rd_lt Ao)))⟩) (show rd _ _ [I Ac.fType,I Ac.fGroup,Be] (Ac:Carton) from ⟨_,_,z,z,(Enc.rd_agr Ai (m.a00 (Enc.rd_lt Ai)))⟩) Bb) fun Bt e a k m=>?_
     have s:=s.trans e (by simp)
     refine wpList_nil ⟨s,?_⟩
     refine d_one 14 (by kernel_rfl) z (oE h fun Bq Bj h=>cE k m call213 z z z (c_spec_Within fu (r1.fPallet:Pallet) (Bi:Box) (Az:Spot)  Bj) fun Bw e a k m=>?_)
     have s:=s.trans e (by simp)
     refine wpList_nil ⟨s,?_⟩
     refine dN [15] 1 z k (by kernel_rfl) z s (fun _ _ _ _ _=>id) fun a k=>d_done (by kernel_rfl) ((nm_then ?_))
     refine cI h k z (fun Ax h=>?_) fun Ax h=>?_
     · refine wr (pN 1 k z fun a k=>nn (wp_ret (rt_block (rt_then (rt_then (rt_block (rt_then ?_)))))))
       refine fS h k m z z
     refine wp_skip (nm_block (nm_then ?_))
     refine wp_region_lit (pN 3 k z fun a k=>nn ?_)
     exact ⟨w64 (Ab + 1),k.keep [2,3,5] z,m.sel [0,1] z (by decide),h⟩
   refine wp_exit (ex_then (ex_then (ex_same (nm_then ?_))))
   refine wr (pN 1 k z fun a k=>nn (wp_ret (fS h k m z z)))
 exact ⟨0,k.keep [2,3,5] z,m.sel [1,0] z (by decide),h⟩
theorem c_spec_l12Cross (fu:Nat) {w0:World} (a1:Int) (Ac:Int) (b3:Int) (Ab:Int)  {r:Bool}
    (h:d_spec_l12Cross fu a1 Ac b3 Ab = some r) :
    Calls Tryz.prog 270 #[I a1,I Ac,I b3,I Ab] w0 fun e w=>e = .returned (.bool (r)) ∧ Ext [] w0 w:=by
 refine enter (vs:=[_,_,_,_]) func270 z ntmps270 z fun a k=>?_
 have m:=St.start w0
 unfold d_spec_l12Cross at h
 refine wr (pN 1 k z fun a k=>nn (wr (pN 6 k z fun a k=>bsplit (decide (a1 < (w64 (b3 + Ab)))) (fun Aa=>?_) (fun Aa=>?_))))
 · have h:=bif_t Aa h
   refine rB k 14 z Aa fun k=>pN 7 k z fun a k=>nn (wp_ret (fS h k m z z))
 have h:=bif_f Aa h
 refine rB k 14 z Aa fun k=>pN 7 k z fun a k=>nn (wp_ret (fS h k m z z))
theorem c_spec_Overlap (fu:Nat) {w0:World} (a1:Box) (Aa:Spot) (b3:Box) (t4:Spot)  {r:Bool}
    (h:d_spec_Overlap fu a1 Aa b3 t4 = some r) :
    Calls Tryz.prog 215 #[.agg (Flat.e (a1)).toArray,.agg (Flat.e (Aa)).toArray,.agg (Flat.e (b3)).toArray,.agg (Flat.e (t4)).toArray] w0 fun e w=>e = .returned (.bool (r)) ∧ Ext [] w0 w:=by
 refine enter (vs:=[_,_,_,_]) func215 z ntmps215 z fun a k=>?_
 have m:=St.start w0
 unfold d_spec_Overlap at h
 refine wr (s_box (cs:=[I a1.fW,I a1.fD,I a1.fH,I a1.fGram]) m k z z z z z z fun b5 w7 a k m e Ai=>s_box (cs:=[I Aa.fPallet,I Aa.fX,I Aa.fY,I Aa.fZ]) m k z z z z z z fun b8 Aw a k m e Ac=>s_box (cs:=[I b3.fW,I b3.fD,I b3.fH,I b3.fGram]) m k z z z z z z fun Ba Ay a k m e Aj=>s_box (cs:=[I t4.fPallet,I t4.fX,I t4.fY,I t4.fZ]) m k z z z z z z fun Bd Be a k m e Ah=>pN 1 k z fun a k=>nn (wr (sv k z (r_ldB ta86 m 3 Ai 0 k z z z z z z) fun a k=>sv k z (r_ldB ta89 m 2 Ac 0 k z z z z z z) fun a k=>oE h fun Ao At h=>?_)))
 refine cE k m call268 z z z (c_spec_l12Known fu (a1:Box) (Aa:Spot)  At) fun Bb e a k m=>pN 1 k z fun a k=>bsplit (Ao) (fun Af=>?_) (fun Af=>?_)
 · have h:=bif_t Af h
   refine rB k 12 z Af fun k=>sv k z (r_ldB ta86 m 1 Aj 0 k z z z z z z) fun a k=>sv k z (r_ldB ta89 m 0 Ah 0 k z z z z z z) fun a k=>oE h fun Am Aq h=>cE k m call268 z z z (c_spec_l12Known fu (b3:Box) (t4:Spot)  Aq) fun Ax e a k m=>pN 2 k z fun a k=>bsplit (Am) (fun Ae=>?_) (fun Ae=>?_)
   · have h:=bif_t Ae h
     refine rB k 17 z Ae fun k=>sv k z (r_fa fa89_0 k z z) fun a k=>sv k z (r_ldb t13 m 2 Ac 0 k z z z z z) fun a k=>sv k z (r_fa fa89_0 k z z) fun a k=>sv k z (r_ldb t13 m 0 Ah 0 k z z z z z) fun a k=>pN 3 k z fun a k=>bsplit (Aa.fPallet == t4.fPallet) (fun Ag=>?_) (fun Ag=>?_)
     · have h:=bif_t Ag h
       refine rB k 24 z Ag fun k=>sv k z (r_fa fa89_1 k z z) fun a k=>sv k z (r_ldb t13 m 2 Ac 1 k z z z z z) fun a k=>sv k z (r_fa fa86_0 k z z) fun a k=>sv k z (r_ldb t13 m 3 Ai 0 k z z z z z) fun a k=>sv k z (r_fa fa89_1 k z z) fun a k=>sv k z (r_ldb t13 m 0 Ah 1 k z z z z z) fun a k=>sv k z (r_fa fa86_0 k z z) fun a k=>sv k z (r_ldb t13 m 1 Aj 0 k z z z z z) fun a k=>oE h fun Ap Ak h=>cE k m call270 z z z (c_spec_l12Cross fu _ _ _ _  Ak) fun Au e a k m=>pN 2 k z fun a k=>bsplit (Ap) (fun Ab=>?_) (fun Ab=>?_)
       · have h:=bif_t Ab h
         refine rB k 35 z Ab fun k=>sv k z (r_fa fa89_2 k z z) fun a k=>sv k z (r_ldb t13 m 2 Ac 2 k z z z z z) fun a k=>sv k z (r_fa fa86_1 k z z) fun a k=>sv k z (r_ldb t13 m 3 Ai 1 k z z z z z) fun a k=>sv k z (r_fa fa89_2 k z z) fun a k=>sv k z (r_ldb t13 m 0 Ah 2 k z z z z z) fun a k=>sv k z (r_fa fa86_1 k z z) fun a k=>sv k z (r_ldb t13 m 1 Aj 1 k z z z z z) fun a k=>oE h fun As Ar h=>cE k m call270 z z z (c_spec_l12Cross fu _ _ _ _  Ar) fun Bc e a k m=>pN 2 k z fun a k=>bsplit (As) (fun Ad=>?_) (fun Ad=>?_)
         · have h:=bif_t Ad h
           refine rB k 46 z Ad fun k=>sv k z (r_fa fa89_3 k z z) fun a k=>sv k z (r_ldb t13 m 2 Ac 3 k z z z z z) fun a k=>sv k z (r_fa fa86_2 k z z) fun a k=>sv k z (r_ldb t13 m 3 Ai 2 k z z z z z) fun a k=>sv k z (r_fa fa89_3 k z z) fun a k=>sv k z (r_ldb t13 m 0 Ah 3 k z z z z z) fun a k=>sv k z (r_fa fa86_2 k z z) fun a k=>sv k z (r_ldb t13 m 1 Aj 2 k z z z z z) fun a k=>oE h fun Az Al h=>cE k m call270 z z z (c_spec_l12Cross fu _ _ _ _  Al) fun Av e a k m=>pN 2 k z fun a k=>?_
           have k:=k.keep [8] z
           refine nn (wp_ret (fS h k m z z))
         have h:=bif_f Ad h
         refine rB k 46 z Ad fun k=>pN 11 k z fun a k=>?_
         have k:=k.keep [8] z
         refine nn (wp_ret (fS h k m z z))
       have h:=bif_f Ab h
       refine rB k 35 z Ab fun k=>pN 22 k z fun a k=>?_
       have k:=k.keep [8] z
       refine nn (wp_ret (fS h k m z z))
     have h:=bif_f Ag h
     refine rB k 24 z Ag fun k=>pN 33 k z fun a k=>?_
     have k:=k.keep [8] z
     refine nn (wp_ret (fS h k m z z))
   have h:=bif_f Ae h
   refine rB k 17 z Ae fun k=>pN 40 k z fun a k=>?_
   have k:=k.keep [8] z
   refine nn (wp_ret (fS h k m z z))
 have h:=bif_f Af h
 refine rB k 12 z Af fun k=>pN 45 k z fun a k=>?_
 have k:=k.keep [8] z
 refine nn (wp_ret (fS h k m z z))
theorem c_spec_l15Apart (fu:Nat) {w0:World} (r1:Request) (x5:Plan) {Aw:List Value} {F3:List Nat} (Bg:rd w0 F3 Aw r1) {At:List Value} {F7:List Nat} (Bn:rd w0 F7 At x5) {r:Bool}
    (h:d_spec_l15Apart fu r1 x5 = some r) :
    Calls Tryz.prog 111 #[.agg Aw.toArray,.agg At.toArray] w0 fun e w=>e = .returned (.bool (r)) ∧ Ext [] w0 w:=by
 refine enter (vs:=[_,_]) func111 z ntmps111 z fun a k=>?_
 have m:=St.start w0
 obtain ⟨v9,Cm,Ao,Cd,Ak,Cg,rfl,rfl,Ah,Ae,Ai⟩:=Bg
 obtain ⟨Bw,Cn,Bm,Co,rfl,rfl,Aa,Ac⟩:=Bn
 unfold d_spec_l15Apart at h
 refine wr (s_box (cs:=[I r1.fWay,I r1.fPallet.fW,I r1.fPallet.fD,I r1.fPallet.fH,I r1.fPallet.fGram,I r1.fClasses,v9,Ao,I r1.fMaster,Ak]) m k z z z z z z fun Af As a k m e Av=>s_box (cs:=[Bw,Bm]) m k z z z z z z fun Ag Ay a k m e Ad=>pN 1 k z fun a k=>nn (wp_seq (wr (pN 1 k z fun a k=>nn (wp_block (c_loop (fun n a w=>∃ (Ab:Int),K 44 [(2,.pointer (some (⟨Af,0,none⟩:Addr))),(3,.pointer (some (⟨Ag,0,none⟩:Addr))),(5,I Ab)] a ∧ St [] w0 w [([Af],As),([Ag],Ay)] ∧ d_spec_l15Apart_L2 fu r1 x5 n Ab = some r) ?_ ?_ fu _ _ ?_))))))
 · rintro a w ⟨_,_,_,h⟩
   exact nS h
 · rintro Bt a Cf ⟨Ab,k,m,h⟩
   rw [d_spec_l15Apart_L2_s] at h
   unfold d_spec_l15Apart_L2_B at h
   refine wp_seq (wr (pN 1 k z fun a k=>sv k z (r_fa fa58_0 k z z) fun a k=>sv k z (r_ldb t155 m 1 Ad 0 k z z z z z) fun a k=>sv k z (r_len (α:=Carton) Aa k underlying55 z z) fun a k=>pN 1 k z fun a k=>nn (cI h k z (fun Bp h=>?_) fun Bp h=>?_)))
   · refine wp_skip (nm_then ?_)
     refine wp_seq (wp_block (wr (pN 1 k z fun a k=>nn (wp_block (c_loop (fun n a w=>∃ (Aj:Int),K 44 [(2,.pointer (some (⟨Af,0,none⟩:Addr))),(3,.pointer (some (⟨Ag,0,none⟩:Addr))),(5,I Ab),(6,I Aj)] a ∧ St [] w0 w [([Af],As),([Ag],Ay)] ∧ d_spec_l15Apart_L1 fu (d_spec_l15Apart_L2 fu r1 x5 Bt) r1 x5 Ab n Aj = some r) ?_ ?_ fu _ _ ?_)))))
     · rintro a w ⟨_,_,_,h⟩
       exact nS h
     · rintro Cb a Ch ⟨Aj,k,m,h⟩
       rw [d_spec_l15Apart_L1_s] at h
       unfold d_spec_l15Apart_L1_B at h
       refine wp_seq (wr (pN 3 k z fun a k=>nn (cI h k z (fun Bf h=>?_) fun Bf h=>?_)))
       · refine wp_skip (nm_then ?_)
         refine wp_seq (wp_block (wp_seq (d_go [] mixo m z fun Bc hMd=>?_)))
         have m:=hMd
         have s:=Ext.refl ([]:List Nat) Bc
         refine dN [3,9,15,21] 4 z k (by kernel_rfl) z s (fun _ _ _ _ _=>id) fun a k=>dt k 0 z (by kernel_rfl) z s (fun _ _ _=>id) (fun w s=>r_ldA ta38 (Av.at ((hMd.step s).a 0 z) 0 10 z z z) z k z z) fun a k=>dt k 1 z (by kernel_rfl) z s (fun _ _ _=>id) (fun w s=>r_fa fa58_0 k z z) fun a k=>dt k 2 z (by kernel_rfl) z s (fun _ _ _=>id) (fun w s=>r_ld1 t155 (r:=[]) (Ad.at ((hMd.step s).a 1 z) 0 1 z z z) k z z) fun a k=>oE h fun Al Az h=>dt k 4 z (by kernel_rfl) z s (fun _ _ _=>id) (fun w s=>r_ixa Aa Az k ts55 z z z) fun a k=>?_
         obtain ⟨Ce,Cj,Cl,Bs,Bo,Bv⟩:=rd_get Aa (ix_some Az).2.2
         obtain ⟨Bq,_,rfl,rfl,Ap⟩:=Bs
         refine dt k 5 z (by kernel_rfl) z s (fun _ _ _=>id) (fun w s=>r_ldA ta83 (Bo.agr ((hMd.step s).a00 (Enc.rd_lt Aa)) Bv) z k z z) fun a k=>dt k 7 z (by kernel_rfl) z s (fun _ _ _=>id) (fun w s=>r_fa fa58_1 k z z) fun a k=>dt k 8 z (by kernel_rfl) z s (fun _ _ _=>id) (fun w s=>r_ld1 t156 (r:=[]) (Ad.at ((hMd.step s).a 1 z) 1 1 z z z) k z z) fun a k=>oE h fun Bb Ar h=>dt k 10 z (by kernel_rfl) z s (fun _ _ _=>id) (fun w s=>r_ixa Ac Ar k ts56 z z z) fun a k=>dt k 11 z (by kernel_rfl) z s (fun _ _ _=>id) (fun w s=>r_lde Ac ((hMd.step s).a00 (Enc.rd_lt Ac)) Ar ta89 k z z) fun a k=>dt k 12 z (by kernel_rfl) z s (fun _ _ _=>id) (fun w s=>r_ldA ta38 (Av.at ((hMd.step s).a 0 z) 0 10 z z z) z k z z) fun a k=>?_
         refine dt k 13 z (by kernel_rfl) z s (fun _ _ _=>id) (fun w s=>r_fa fa58_0 k z z) fun a k=>dt k 14 z (by kernel_rfl) z s (fun _ _ _=>id) (fun w s=>r_ld1 t155 (r:=[]) (Ad.at ((hMd.step s).a 1 z) 0 1 z z z) k z z) fun a k=>oE h fun Am Ax h=>dt k 16 z (by kernel_rfl) z s (fun _ _ _=>id) (fun w s=>r_ixa Aa Ax k ts55 z z z) fun a k=>?_
         obtain ⟨By,Cp,Bz,Bk,Bd,Bi⟩:=rd_get Aa (ix_some Ax).2.2
         obtain ⟨Bl,_,rfl,rfl,Au⟩:=Bk
         refine dt k 17 z (by kernel_rfl) z s (fun _ _ _=>id) (fun w s=>r_ldA ta83 (Bd.agr ((hMd.step s).a00 (Enc.rd_lt Aa)) Bi) z k z z) fun a k=>dt k 19 z (by kernel_rfl) z s (fun _ _ _=>id) (fun w s=>r_fa fa58_1 k z z) fun a k=>dt k 20 z (by kernel_rfl) z s (fun _ _ _=>id) (fun w s=>r_ld1 t156 (r:=[]) (Ad.at ((hMd.step s).a 1 z) 1 1 z z z) k z z) fun a k=>oE h fun Bj Aq h=>dt k 22 z (by kernel_rfl) z s (fun _ _ _=>id) (fun w s=>r_ixa Ac Aq k ts56 z z z) fun a k=>dt k 23 z (by kernel_rfl) z s (fun _ _ _=>id) (fun w s=>r_lde Ac ((hMd.step s).a00 (Enc.rd_lt Ac)) Aq ta89 k z z) fun a k=>d_one 6 (by kernel_rfl) z (oE h fun Bh Bu h=>?_)
         refine cE k m call214 z z z (c_spec_BoxOf fu _ _ (show rd _ _ [I r1.fWay,I r1.fPallet.fW,I r1.fPallet.fD,I r1.fPallet.fH,I r1.fPallet.fGram,I r1.fClasses,v9,Ao,I r1.fMaster,Ak] (r1:Request) from ⟨_,_,_,_,_,_,z,z,(Enc.rd_agr Ah (m.a00 (Enc.rd_lt Ah))),(Enc.rd_agr Ae (m.a00 (Enc.rd_lt Ae))),(Enc.rd_agr Ai (m.a00 (Enc.rd_lt Ai)))⟩) (show rd _ _ [I Al.fType,I Al.fGroup,Bq] (Al:Carton) from ⟨_,_,z,z,(Enc.rd_agr Ap (m.a00 (Enc.rd_lt Ap)))⟩) Bu) fun Cc e a k m=>?_
         have s:=s.trans e (by simp)
         refine wpList_nil ⟨s,?_⟩
         refine d_one 18 (by kernel_rfl) z (oE h fun Br Bx h=>cE k m call214 z z z (c_spec_BoxOf fu _ _ (show rd _ _ [I r1.fWay,I r1.fPallet.fW,I r1.fPallet.fD,I r1.fPallet.fH,I r1.fPallet.fGram,I r1.fClasses,v9,Ao,I r1.fMaster,Ak] (r1:Request) from ⟨_,_,_,_,_,_,z,z,(Enc.rd_agr Ah (m.a00 (Enc.rd_lt Ah))),(Enc.rd_agr Ae (m.a00 (Enc.rd_lt Ae))),(Enc.rd_agr Ai (m.a00 (Enc.rd_lt Ai)))⟩) (show rd _ _ [I Am.fType,I Am.fGroup,Bl] (Am:Carton) from ⟨_,_,z,z,(Enc.rd_agr Au (m.a00 (Enc.rd_lt Au)))⟩) Bx) fun Ci e a k m=>?_)
         have s:=s.trans e (by simp)
         refine wpList_nil ⟨s,?_⟩
         refine d_one 24 (by kernel_rfl) z (oE h fun Ca Ba h=>cE k m call215 z z z (c_spec_Overlap fu (Bh:Box) (Bb:Spot) (Br:Box) (Bj:Spot)  Ba) fun Ck e a k m=>?_)
         have s:=s.trans e (by simp)
         refine wpList_nil ⟨s,?_⟩
         refine d_done (by kernel_rfl) ?_
         have k:=k.keep [2,3,5,6,43] z
         refine (nm_then ?_)
         refine cI h k z (fun Be h=>?_) fun Be h=>?_
         · refine wr (pN 1 k z fun a k=>nn (wp_ret (rt_block (rt_then (rt_then (rt_block (rt_block (rt_then (rt_then (rt_block (rt_then ?_)))))))))))
           refine fS h k m z z
         refine wp_skip (nm_block (nm_then ?_))
         refine wp_region_lit (pN 3 k z fun a k=>nn ?_)
         exact ⟨w64 (Aj + 1),k.keep [2,3,5,6] z,m.sel [0,1] z (by decide),h⟩
       refine wp_exit (ex_then (ex_then (ex_same (nm_block (nm_then ?_)))))
       refine wp_region_lit (pN 3 k z fun a k=>nn ?_)
       exact ⟨w64 (Ab + 1),k.keep [2,3,5] z,m.sel [0,1] z (by decide),h⟩
     exact ⟨0,k.keep [2,3,5,6] z,m.sel [0,1] z (by decide),h⟩
   refine wp_exit (ex_then (ex_then (ex_same (nm_then ?_))))
   refine wr (pN 1 k z fun a k=>nn (wp_ret (fS h k m z z)))
 exact ⟨0,k.keep [2,3,5] z,m.sel [1,0] z (by decide),h⟩
theorem c_spec_l1Max (fu:Nat) {w0:World} (a1:Int) (b2:Int)  {r:Int}
    (h:d_spec_l1Max fu a1 b2 = some r) :
    Calls Tryz.prog 232 #[I a1,I b2] w0 fun e w=>e = .returned (I r) ∧ Ext [] w0 w:=by
 refine enter (vs:=[_,_]) func232 z ntmps232 z fun a k=>?_
 have m:=St.start w0
 unfold d_spec_l1Max at h
 refine wr (pN 1 k z fun a k=>nn (wp_seq (wr (pN 3 k z fun a k=>nn (cI h k z (fun Aa h=>?_) fun Aa h=>?_)))))
 · refine wr (pN 2 k z fun a k=>nn (wp_ret (rt_then ?_)))
   refine fS h k m z z
 refine wp_skip (nm_then ?_)
 refine wr (pN 2 k z fun a k=>nn (wp_ret (fS h k m z z)))
theorem c_spec_Pallets (fu:Nat) {w0:World} (Ad:List Spot) {v2:Value} {F3:List Nat} (Aa:rd w0 F3 [v2] Ad) {r:Int}
    (h:d_spec_Pallets fu Ad = some r) :
    Calls Tryz.prog 138 #[v2] w0 fun e w=>e = .returned (I r) ∧ Ext [] w0 w:=by
 refine enter (vs:=[_]) func138 z ntmps138 z fun a k=>?_
 have m:=St.start w0
 unfold d_spec_Pallets at h
 refine wr (pN 1 k z fun a k=>nn (wr (pN 1 k z fun a k=>nn (wp_seq (wr (pN 1 k z fun a k=>nn (wp_block (c_loop (fun n a w=>∃ (Af:Int) (Ab:Int),K 26 [(0,v2),(3,I Af),(4,I Ab)] a ∧ St [] w0 w [] ∧ d_spec_Pallets_L1 fu Ad n Af Ab = some r) ?_ ?_ fu _ _ ?_))))))))
 · rintro a w ⟨_,_,_,_,h⟩
   exact nS h
 · rintro Ah a Am ⟨Af,Ab,k,m,h⟩
   rw [d_spec_Pallets_L1_s] at h
   unfold d_spec_Pallets_L1_B at h
   refine wp_seq (wr (pN 2 k z fun a k=>sv k z (r_len (α:=Spot) Aa k underlying56 z z) fun a k=>pN 1 k z fun a k=>nn (cI h k z (fun Al h=>?_) fun Al h=>?_)))
   · refine wp_skip (nm_then ?_)
     refine c_cut (fun a w=>∃ (Ac:Int),K 26 [(0,v2),(3,I Ac),(4,I Ab)] a ∧ St [] w0 w [] ∧ d_spec_Pallets_J1 fu (d_spec_Pallets_L1 fu Ad Ah) Ab Ac = some r) ?_ ?_
     · rintro a At ⟨Ac,k,m,h⟩
       unfold d_spec_Pallets_J1 at h
       refine wp_region_lit (pN 3 k z fun a k=>nn ?_)
       exact ⟨Ac,w64 (Ab + 1),k.keep [0,3,4] z,m.sel [] z (by decide),h⟩
     refine wp_block (wr (pN 2 k z fun a k=>oE h fun Ar Ae h=>sv k z (r_ixa Aa Ae k ts56 z z z) fun a k=>sv k z (r_fa fa89_0 k z z) fun a k=>sv k z (r_lde1 Aa (m.a00 (Enc.rd_lt Aa)) Ae 0 t13 k z z z z) fun a k=>oE h fun Au Aj h=>cE k m call130 z z z (c_spec_l1In fu _ _ _  Aj) fun Ao e a k m=>nn (cI h k z (fun Ag h=>?_) fun Ag h=>?_)))
     · refine wp_region_lit (pN 3 k z fun a k=>oE h fun Aq Ap h=>sv k z (r_ixa Aa Ae k ts56 z z z) fun a k=>sv k z (r_fa fa89_0 k z z) fun a k=>sv k z (r_lde1 Aa (m.a00 (Enc.rd_lt Aa)) Ae 0 t13 k z z z z) fun a k=>pN 1 k z fun a k=>oE h fun Ak Ai h=>cE k m call232 z z z (c_spec_l1Max fu _ _  Ai) fun As e a k m=>pN 1 k z fun a k=>wpList_nil (nm_block (nm_then ?_)))
       exact ⟨Ak,k.keep [0,3,4] z,m.sel [] z (by decide),h⟩
     refine wp_skip (nm_block (nm_then ?_))
     exact ⟨Af,k.keep [0,3,4] z,m.sel [] z (by decide),h⟩
   refine wp_exit (ex_then (ex_then (ex_same (nm_then ?_))))
   refine wr (pN 2 k z fun a k=>nn (wp_ret (fS h k m z z)))
 exact ⟨0,0,k.keep [0,3,4] z,m.sel [] z (by decide),h⟩
theorem c_spec_OnPallet (fu:Nat) {w0:World} (x1:Plan) (Ab:Int) {Av:List Value} {F3:List Nat} (Bd:rd w0 F3 Av x1) {r:(List Int)}
    (h:d_spec_OnPallet fu x1 Ab = some r) :
    Calls Tryz.prog 216 #[.agg Av.toArray,I Ab] w0 fun e w=>∃ (v0:Value) (G0:List Nat),e = .returned (v0) ∧ Ext [] w0 w ∧ ow w G0 [v0] r ∧ (∀ b ∈ G0,w0.heap.size ≤ b):=by
 refine enter (vs:=[_,_]) func216 z ntmps216 z fun a k=>?_
 have m:=St.start w0
 obtain ⟨v6,F7,v8,F9,rfl,rfl,Ar,Al⟩:=Bd
 unfold d_spec_OnPallet at h
 refine wr (s_box (cs:=[v6,v8]) m k z z z z z z fun Ad Aq a k m e Ao=>pN 1 k z fun a k=>nn (wr (s_bs (cs:=[]) (ps:=[]) te63 m k z z z z z z z (by decide) z (by exact (List.forall_mem_nil _)) fun Au Bk Br a k m e Bh=>?_)))
 have Aw:=ow_bx Bh ([]:List Int) z z z
 refine pN 1 k z fun a k=>nn (wp_seq (wr (pN 1 k z fun a k=>nn (wp_block (c_loop (fun n a w=>∃ (Ae:List Int) (Ah:Value) (Ac:List Nat) (Ag:World) (Aa:Int),K 37 [(1,I Ab),(2,.pointer (some (⟨Ad,0,none⟩:Addr))),(5,Ah),(6,I Aa)] a ∧ St [] w0 w [([Ad],Aq),(Ac,Ag)] ∧ ow Ag Ac [Ah] Ae ∧ d_spec_OnPallet_L1 fu x1 Ab n Ae Aa = some r) ?_ ?_ fu _ _ ?_)))))
 · rintro a w ⟨_,_,_,_,_,_,_,_,h⟩
   exact nS h
 · rintro As a Bq ⟨Ae,Ah,Ac,Ag,Aa,k,m,Ai,h⟩
   rw [d_spec_OnPallet_L1_s] at h
   unfold d_spec_OnPallet_L1_B at h
   refine c_cut (fun a w=>K 37 [(1,I Ab),(2,.pointer (some (⟨Ad,0,none⟩:Addr))),(5,Ah),(6,I Aa)] a ∧ St [] w0 w [([Ad],Aq),(Ac,Ag)] ∧ d_spec_OnPallet_J2 fu (d_spec_OnPallet_L1 fu x1 Ab As) x1 Ab Ae Aa = some r) ?_ ?_
   · rintro a Bp ⟨k,m,h⟩
     unfold d_spec_OnPallet_J2 at h
     refine c_cut (fun a w=>∃ (Am:List Int) (Ap:Value) (Aj:List Nat) (Ak:World),K 37 [(1,I Ab),(2,.pointer (some (⟨Ad,0,none⟩:Addr))),(5,Ap),(6,I Aa)] a ∧ St [] w0 w [([Ad],Aq),(Aj,Ak)] ∧ ow Ak Aj [Ap] Am ∧ d_spec_OnPallet_J1 fu (d_spec_OnPallet_L1 fu x1 Ab As) Aa Am = some r) ?_ ?_
     · rintro a Bs ⟨Am,Ap,Aj,Ak,k,m,Bb,h⟩
       unfold d_spec_OnPallet_J1 at h
       refine wp_region_lit (pN 3 k z fun a k=>nn ?_)
       exact ⟨Am,Ap,Aj,Ak,w64 (Aa + 1),k.keep [1,2,5,6] z,m.sel [0,1] z (by decide),Bb,h⟩
     refine wp_block (wr (sv k z (r_fa fa58_1 k z z) fun a k=>sv k z (r_ldb t156 m 0 Ao 1 k z z z z z) fun a k=>pN 1 k z fun a k=>oE h fun Bm At h=>sv k z (r_ixa Al At k ts56 z z z) fun a k=>sv k z (r_fa fa89_0 k z z) fun a k=>sv k z (r_lde1 Al (m.a00 (Enc.rd_lt Al)) At 0 t13 k z z z z) fun a k=>pN 2 k z fun a k=>nn (cI h k z (fun Ay h=>?_) fun Ay h=>?_)))
     · refine wp_region_lit (pN 2 k z fun a k=>s_bs (cs:=[I Aa]) (ps:=[(0,.tmp 33)]) te63 m k z z z z z z z (by decide) z (by exact (List.forall_mem_cons.2 ⟨z,(List.forall_mem_nil _)⟩)) fun Bn Bl Bo a k m e Be=>?_)
       have Bf:=ow_bx Be ([Aa]:List Int) z z z
       refine oE h fun Bc Ax h=>s_appF Ax te63 z m 2 Ai (News.rd (Enc.rd_agr (Enc.ow_rd Bf) (m.a 0 z))) z z k z z z z z z z fun Ba Bi Bj a k e m Bg=>pN 1 k z fun a k=>wpList_nil (nm_block (nm_then ?_))
       exact ⟨Bc,Ba,Bi,Bj,k.keep [1,2,5,6] z,m.sel [1,2] z (by decide),Bg,h⟩
     refine wp_skip (nm_block (nm_then ?_))
     exact ⟨Ae,Ah,Ac,Ag,k.keep [1,2,5,6] z,m.sel [0,1] z (by decide),Ai,h⟩
   refine wr (pN 1 k z fun a k=>sv k z (r_fa fa58_0 k z z) fun a k=>sv k z (r_ldb t155 m 0 Ao 0 k z z z z z) fun a k=>sv k z (r_len (α:=Carton) Ar k underlying55 z z) fun a k=>pN 2 k z fun a k=>bsplit (decide (Aa < ((x1.fCartons.length:Int)))) (fun Af=>?_) (fun Af=>?_))
   · have h:=bif_t Af h
     refine rB k 13 z Af fun k=>sv k z (r_fa fa58_0 k z z) fun a k=>sv k z (r_ldb t155 m 0 Ao 0 k z z z z z) fun a k=>sv k z (r_len (α:=Carton) Ar k underlying55 z z) fun a k=>sv k z (r_fa fa58_1 k z z) fun a k=>sv k z (r_ldb t156 m 0 Ao 1 k z z z z z) fun a k=>sv k z (r_len (α:=Spot) Al k underlying56 z z) fun a k=>pN 2 k z fun a k=>nn (cI h k z (fun Az h=>?_) fun Az h=>?_)
     · refine wp_skip (nm_then ?_)
       exact ⟨k.keep [1,2,5,6] z,m.sel [0,1] z (by decide),h⟩
     refine wp_exit (ex_then (ex_then (ex_same (nm_then ?_))))
     refine wr (pN 2 k z fun a k=>nn (wp_ret ?_))
     cases h
     exact finR1 k z (RV.tmp k z) ⟨_,Ac,z,m.ext,(Enc.ow_agr Ai (m.a 1 z)),(m.fresh 1 z)⟩
   have h:=bif_f Af h
   refine rB k 13 z Af fun k=>pN 8 k z fun a k=>nn (wp_cond_false (k.ev z) (wp_exit (ex_then (ex_then (ex_same (nm_then ?_))))))
   refine wr (pN 2 k z fun a k=>nn (wp_ret ?_))
   cases h
   exact finR1 k z (RV.tmp k z) ⟨_,Ac,z,m.ext,(Enc.ow_agr Ai (m.a 1 z)),(m.fresh 1 z)⟩
 exact ⟨([]:List Int),(.slice (some ⟨Au,0,none⟩) 0 0),[Au],Bk,0,k.keep [1,2,5,6] z,m.sel [1,0] z (by decide),Aw,h⟩
theorem c_spec_PalletGram (fu:Nat) {w0:World} (r1:Request) (x5:Plan) (Ah:Int) {At:List Value} {F3:List Nat} (Bc:rd w0 F3 At r1) {Ai:List Value} {F7:List Nat} (Bi:rd w0 F7 Ai x5) {r:Int}
    (h:d_spec_PalletGram fu r1 x5 Ah = some r) :
    Calls Tryz.prog 217 #[.agg At.toArray,.agg Ai.toArray,I Ah] w0 fun e w=>e = .returned (I r) ∧ Ext [] w0 w:=by
 refine enter (vs:=[_,_,_]) func217 z ntmps217 z fun a k=>?_
 have m:=St.start w0
 obtain ⟨Ao,Ca,Av,Bz,Ap,Bx,rfl,rfl,Af,As,Ax⟩:=Bc
 obtain ⟨Ag,Cb,Al,Cc,rfl,rfl,Aa,Aj⟩:=Bi
 unfold d_spec_PalletGram at h
 refine wr (s_box (cs:=[I r1.fWay,I r1.fPallet.fW,I r1.fPallet.fD,I r1.fPallet.fH,I r1.fPallet.fGram,I r1.fClasses,Ao,Av,I r1.fMaster,Ap]) m k z z z z z z fun Aq Bm a k m e Be=>s_box (cs:=[Ag,Al]) m k z z z z z z fun Ay Ba a k m e Au=>pN 1 k z fun a k=>nn (wr (pN 1 k z fun a k=>nn (wr (sv k z (r_ldB ta58 m 0 Au 0 k z z z z z z) fun a k=>pN 1 k z fun a k=>oE h fun Bf Bp h=>s_call k call216 z z z z z (c_spec_OnPallet fu _ _ (show rd _ _ [Ag,Al] (x5:Plan) from ⟨_,_,_,_,z,z,(Enc.rd_agr Aa (m.a00 (Enc.rd_lt Aa))),(Enc.rd_agr Aj (m.a00 (Enc.rd_lt Aj)))⟩) Bp) fun Cd Bk hR=>?_)))))
 obtain ⟨Az,Ak,rfl,e,Ab,Bj⟩:=hR
 refine ⟨_,z,fun a k=>?_⟩
 have m:=m.new e Ak (fun b hb=>⟨Bj b hb,Enc.rd_lt (Enc.ow_rd Ab) b hb⟩) (Enc.ow_nd Ab)
 refine pN 1 k z fun a k=>nn (wp_seq (wr (pN 1 k z fun a k=>nn (wp_block (c_loop (fun n a w=>∃ (Ad:Int) (Ac:Int),K 32 [(3,.pointer (some (⟨Aq,0,none⟩:Addr))),(4,.pointer (some (⟨Ay,0,none⟩:Addr))),(7,I Ad),(8,Az),(9,I Ac)] a ∧ St [] w0 w [([Aq],Bm),([Ay],Ba),(Ak,Bk)] ∧ d_spec_PalletGram_L1 fu r1 x5 Bf n Ad Ac = some r) ?_ ?_ fu _ _ ?_)))))
 · rintro a w ⟨_,_,_,_,h⟩
   exact nS h
 · rintro Br a Bs ⟨Ad,Ac,k,m,h⟩
   rw [d_spec_PalletGram_L1_s] at h
   unfold d_spec_PalletGram_L1_B at h
   refine wp_seq (wr (pN 2 k z fun a k=>sv k z (r_len (α:=Int) (Enc.ow_rd Ab) k underlying63 z z) fun a k=>pN 1 k z fun a k=>nn (cI h k z (fun Bd h=>?_) fun Bd h=>?_)))
   · refine wp_skip (nm_then ?_)
     refine wp_seq (wp_block (d_go [] mixo m z fun Bl hMd=>?_))
     have m:=hMd
     have s:=Ext.refl ([]:List Nat) Bl
     refine dN [0,4,5] 3 z k (by kernel_rfl) z s (fun _ _ _ _ _=>id) fun a k=>dt k 1 z (by kernel_rfl) z s (fun _ _ _=>id) (fun w s=>r_ldA ta38 (Be.at ((hMd.step s).a 0 z) 0 10 z z z) z k z z) fun a k=>dt k 2 z (by kernel_rfl) z s (fun _ _ _=>id) (fun w s=>r_fa fa58_0 k z z) fun a k=>dt k 3 z (by kernel_rfl) z s (fun _ _ _=>id) (fun w s=>r_ld1 t155 (r:=[]) (Au.at ((hMd.step s).a 1 z) 0 1 z z z) k z z) fun a k=>oE h fun Bt Am h=>dt k 6 z (by kernel_rfl) z s (fun _ _ _=>id) (fun w s=>r_ixa (Enc.ow_rd Ab) Am k ts63 z z z) fun a k=>dt k 7 z (by kernel_rfl) z s (fun _ _ _=>id) (fun w s=>r_lde1 (Enc.ow_rd Ab) ((hMd.step s).a 2 z) Am 0 t13 k z z z z) fun a k=>oE h fun Ae Ar h=>?_
     refine dt k 8 z (by kernel_rfl) z s (fun _ _ _=>id) (fun w s=>r_ixa Aa Ar k ts55 z z z) fun a k=>?_
     obtain ⟨Bv,Bw,By,Bn,Bg,Bb⟩:=rd_get Aa (ix_some Ar).2.2
     obtain ⟨Bq,_,rfl,rfl,Aw⟩:=Bn
     refine dt k 9 z (by kernel_rfl) z s (fun _ _ _=>id) (fun w s=>r_ldA ta83 (Bg.agr ((hMd.step s).a00 (Enc.rd_lt Aa)) Bb) z k z z) fun a k=>d_one 10 (by kernel_rfl) z (oE h fun Bh Bo h=>cE k m call269 z z z (c_spec_Gross fu _ _ (show rd _ _ [I r1.fWay,I r1.fPallet.fW,I r1.fPallet.fD,I r1.fPallet.fH,I r1.fPallet.fGram,I r1.fClasses,Ao,Av,I r1.fMaster,Ap] (r1:Request) from ⟨_,_,_,_,_,_,z,z,(Enc.rd_agr Af (m.a00 (Enc.rd_lt Af))),(Enc.rd_agr As (m.a00 (Enc.rd_lt As))),(Enc.rd_agr Ax (m.a00 (Enc.rd_lt Ax)))⟩) (show rd _ _ [I Ae.fType,I Ae.fGroup,Bq] (Ae:Carton) from ⟨_,_,z,z,(Enc.rd_agr Aw (m.a00 (Enc.rd_lt Aw)))⟩) Bo) fun Bu e a k m=>?_)
     have s:=s.trans e (by simp)
     refine wpList_nil ⟨s,?_⟩
     refine dN [11,12] 2 z k (by kernel_rfl) z s (fun _ _ _ _ _=>id) fun a k=>d_done (by kernel_rfl) ((nm_block (nm_then ?_)))
     refine wp_region_lit (pN 3 k z fun a k=>nn ?_)
     exact ⟨w64 (Ad + Bh),w64 (Ac + 1),k.keep [3,4,7,8,9] z,m.sel [0,1,2] z (by decide),h⟩
   refine wp_exit (ex_then (ex_then (ex_same (nm_then ?_))))
   refine wr (pN 2 k z fun a k=>nn (wp_ret (fS h k m z z)))
 exact ⟨0,0,k.keep [3,4,7,8,9] z,m.sel [2,1,0] z (by decide),h⟩
theorem c_spec_l15Pallets (fu:Nat) {w0:World} (r1:Request) (x5:Plan) {Au:List Value} {F3:List Nat} (Bh:rd w0 F3 Au r1) {Av:List Value} {F7:List Nat} (Bj:rd w0 F7 Av x5) {r:Bool}
    (h:d_spec_l15Pallets fu r1 x5 = some r) :
    Calls Tryz.prog 112 #[.agg Au.toArray,.agg Av.toArray] w0 fun e w=>e = .returned (.bool (r)) ∧ Ext [] w0 w:=by
 refine enter (vs:=[_,_]) func112 z ntmps112 z fun a k=>?_
 have m:=St.start w0
 obtain ⟨v9,Cq,Ay,Cb,Be,Cj,rfl,rfl,Bb,Az,Aw⟩:=Bh
 obtain ⟨Ao,Ck,Aq,Ce,rfl,rfl,Aa,Ag⟩:=Bj
 unfold d_spec_l15Pallets at h
 refine wr (s_box (cs:=[I r1.fWay,I r1.fPallet.fW,I r1.fPallet.fD,I r1.fPallet.fH,I r1.fPallet.fGram,I r1.fClasses,v9,Ay,I r1.fMaster,Be]) m k z z z z z z fun Ad Aj a k m e At=>s_box (cs:=[Ao,Aq]) m k z z z z z z fun Ac Al a k m e Ah=>pN 1 k z fun a k=>nn (wr (sv k z (r_fa fa58_1 k z z) fun a k=>sv k z (r_ldb t156 m 0 Ah 1 k z z z z z) fun a k=>oE h fun Af Bg h=>cE k m call138 z z z (c_spec_Pallets fu _ (Enc.rd_agr Ag (m.a00 (Enc.rd_lt Ag))) Bg) fun Ca e a k m=>pN 1 k z fun a k=>nn (wp_seq (wr (pN 1 k z fun a k=>nn (wp_block ?_)))))))
 refine c_loop (fun n a w=>∃ (Ab:Int),K 57 [(2,.pointer (some (⟨Ad,0,none⟩:Addr))),(3,.pointer (some (⟨Ac,0,none⟩:Addr))),(5,I Af),(6,I Ab)] a ∧ St [] w0 w [([Ad],Aj),([Ac],Al)] ∧ d_spec_l15Pallets_L2 fu r1 x5 Af n Ab = some r) ?_ ?_ fu _ _ ?_
 · rintro a w ⟨_,_,_,h⟩
   exact nS h
 · rintro Ap a Cu ⟨Ab,k,m,h⟩
   rw [d_spec_l15Pallets_L2_s] at h
   unfold d_spec_l15Pallets_L2_B at h
   refine wp_seq (wr (pN 3 k z fun a k=>nn (cI h k z (fun Bk h=>?_) fun Bk h=>?_)))
   · refine wp_skip (nm_then ?_)
     refine c_cut (fun a w=>K 57 [(2,.pointer (some (⟨Ad,0,none⟩:Addr))),(3,.pointer (some (⟨Ac,0,none⟩:Addr))),(5,I Af),(6,I Ab)] a ∧ St [] w0 w [([Ad],Aj),([Ac],Al)] ∧ d_spec_l15Pallets_J1 fu (d_spec_l15Pallets_L2 fu r1 x5 Af Ap) Ab = some r) ?_ ?_
     · rintro a Co ⟨k,m,h⟩
       unfold d_spec_l15Pallets_J1 at h
       refine wp_region_lit (pN 3 k z fun a k=>nn ?_)
       exact ⟨w64 (Ab + 1),k.keep [2,3,5,6] z,m.sel [0,1] z (by decide),h⟩
     refine wp_block (wr (sv k z (r_ldB ta58 m 1 Ah 0 k z z z z z z) fun a k=>pN 1 k z fun a k=>oE h fun Ar Bp h=>s_call k call216 z z z z z (c_spec_OnPallet fu _ _ (show rd _ _ [Ao,Aq] (x5:Plan) from ⟨_,_,_,_,z,z,(Enc.rd_agr Aa (m.a00 (Enc.rd_lt Aa))),(Enc.rd_agr Ag (m.a00 (Enc.rd_lt Ag)))⟩) Bp) fun Cp Bf hR=>?_))
     obtain ⟨Ax,Am,rfl,e,Ae,Bw⟩:=hR
     refine ⟨_,z,fun a k=>?_⟩
     have m:=m.new e Am (fun b hb=>⟨Bw b hb,Enc.rd_lt (Enc.ow_rd Ae) b hb⟩) (Enc.ow_nd Ae)
     refine pN 1 k z fun a k=>nn (c_cut (fun a w=>K 57 [(2,.pointer (some (⟨Ad,0,none⟩:Addr))),(3,.pointer (some (⟨Ac,0,none⟩:Addr))),(5,I Af),(6,I Ab),(7,Ax)] a ∧ St [] w0 w [([Ad],Aj),([Ac],Al),(Am,Bf)] ∧ d_spec_l15Pallets_J2 fu (d_spec_l15Pallets_L2 fu r1 x5 Af Ap) x5 Ab Ar = some r) ?_ ?_)
     · rintro a Cn ⟨k,m,h⟩
       unfold d_spec_l15Pallets_J2 at h
       refine wr (pN 1 k z fun a k=>nn (wp_block (c_loop (fun n a w=>∃ (Ak:Int),K 57 [(2,.pointer (some (⟨Ad,0,none⟩:Addr))),(3,.pointer (some (⟨Ac,0,none⟩:Addr))),(5,I Af),(6,I Ab),(7,Ax),(8,I Ak)] a ∧ St [] w0 w [([Ad],Aj),([Ac],Al),(Am,Bf)] ∧ d_spec_l15Pallets_L1 fu (d_spec_l15Pallets_L2 fu r1 x5 Af Ap) x5 Ab Ar n Ak = some r) ?_ ?_ fu _ _ ?_)))
       · rintro a w ⟨_,_,_,h⟩
         exact nS h
       · rintro By a Cz ⟨Ak,k,m,h⟩
         rw [d_spec_l15Pallets_L1_s] at h
         unfold d_spec_l15Pallets_L1_B at h
         refine wp_seq (wr (pN 2 k z fun a k=>sv k z (r_len (α:=Int) (Enc.ow_rd Ae) k underlying63 z z) fun a k=>pN 1 k z fun a k=>nn (cI h k z (fun Bs h=>?_) fun Bs h=>?_)))
         · refine wp_skip (nm_then ?_)
           refine wp_seq (wp_block (wp_seq (d_go [] mixo m z fun Bx hMd=>?_)))
           have m:=hMd
           have s:=Ext.refl ([]:List Nat) Bx
           refine dN [2,3,11] 3 z k (by kernel_rfl) z s (fun _ _ _ _ _=>id) fun a k=>dt k 0 z (by kernel_rfl) z s (fun _ _ _=>id) (fun w s=>r_fa fa58_0 k z z) fun a k=>dt k 1 z (by kernel_rfl) z s (fun _ _ _=>id) (fun w s=>r_ld1 t155 (r:=[]) (Ah.at ((hMd.step s).a 1 z) 0 1 z z z) k z z) fun a k=>oE h fun Ci Bd h=>dt k 4 z (by kernel_rfl) z s (fun _ _ _=>id) (fun w s=>r_ixa (Enc.ow_rd Ae) Bd k ts63 z z z) fun a k=>dt k 5 z (by kernel_rfl) z s (fun _ _ _=>id) (fun w s=>r_lde1 (Enc.ow_rd Ae) ((hMd.step s).a 2 z) Bd 0 t13 k z z z z) fun a k=>oE h fun Ch As h=>dt k 6 z (by kernel_rfl) z s (fun _ _ _=>id) (fun w s=>r_ixa Aa As k ts55 z z z) fun a k=>?_
           refine dt k 7 z (by kernel_rfl) z s (fun _ _ _=>id) (fun w s=>r_fa fa83_1 k z z) fun a k=>?_
           obtain ⟨Cr,Cv,Bz,Bu,Bl,Bt⟩:=rd_get Aa (ix_some As).2.2
           obtain ⟨Cc,_,rfl,rfl,Cl⟩:=Bu
           refine dt k 8 z (by kernel_rfl) z s (fun _ _ _=>id) (fun w s=>r_ld1 t13 ((Bl.agr ((hMd.step s).a00 (Enc.rd_lt Aa)) Bt).fld 1 1 (Nat.le_of_ble_eq_true z)) k z z) fun a k=>dt k 9 z (by kernel_rfl) z s (fun _ _ _=>id) (fun w s=>r_fa fa58_0 k z z) fun a k=>dt k 10 z (by kernel_rfl) z s (fun _ _ _=>id) (fun w s=>r_ld1 t155 (r:=[]) (Ah.at ((hMd.step s).a 1 z) 0 1 z z z) k z z) fun a k=>oE h fun Ct Ba h=>dt k 12 z (by kernel_rfl) z s (fun _ _ _=>id) (fun w s=>r_ixa (Enc.ow_rd Ae) Ba k ts63 z z z) fun a k=>dt k 13 z (by kernel_rfl) z s (fun _ _ _=>id) (fun w s=>r_lde1 (Enc.ow_rd Ae) ((hMd.step s).a 2 z) Ba 0 t13 k z z z z) fun a k=>oE h fun Cw Bc h=>?_
           refine dt k 14 z (by kernel_rfl) z s (fun _ _ _=>id) (fun w s=>r_ixa Aa Bc k ts55 z z z) fun a k=>dt k 15 z (by kernel_rfl) z s (fun _ _ _=>id) (fun w s=>r_fa fa83_1 k z z) fun a k=>?_
           obtain ⟨Cx,Cd,Cg,Bn,Bm,Bo⟩:=rd_get Aa (ix_some Bc).2.2
           obtain ⟨Cy,_,rfl,rfl,Cm⟩:=Bn
           refine dt k 16 z (by kernel_rfl) z s (fun _ _ _=>id) (fun w s=>r_ld1 t13 ((Bm.agr ((hMd.step s).a00 (Enc.rd_lt Aa)) Bo).fld 1 1 (Nat.le_of_ble_eq_true z)) k z z) fun a k=>dN [17] 1 z k (by kernel_rfl) z s (fun _ _ _ _ _=>id) fun a k=>d_done (by kernel_rfl) ((nm_then ?_))
           refine cI h k z (fun Bv h=>?_) fun Bv h=>?_
           · refine wr (pN 1 k z fun a k=>nn (wp_ret (rt_block (rt_then (rt_then (rt_block (rt_block (rt_then (rt_then (rt_block (rt_then ?_)))))))))))
             refine fS h k m z z
           refine wp_skip (nm_block (nm_then ?_))
           refine wp_region_lit (pN 3 k z fun a k=>?_)
           have k:=k.keep [2,3,5,6,7,8] z
           refine nn ?_
           exact ⟨w64 (Ak + 1),k.keep [2,3,5,6,7,8] z,m.sel [0,1,2] z (by decide),h⟩
         refine wp_exit (ex_then (ex_then (ex_same (nm_block (nm_then ?_)))))
         exact ⟨k.keep [2,3,5,6] z,m.sel [0,1] z (by decide),h⟩
       exact ⟨1,k.keep [2,3,5,6,7,8] z,m.sel [0,1,2] z (by decide),h⟩
     refine wp_seq (d_go [] mixo m z fun Br hMd=>?_)
     have m:=hMd
     have s:=Ext.refl ([]:List Nat) Br
     refine dN [0] 1 z k (by kernel_rfl) z s (fun _ _ _ _ _=>id) fun a k=>dt k 1 z (by kernel_rfl) z s (fun _ _ _=>id) (fun w s=>r_len (α:=Int) (Enc.ow_rd Ae) k underlying63 z z) fun a k=>dN [2,3] 2 z k (by kernel_rfl) z s (fun _ _ _ _ _=>id) fun a k=>bsplit (((Ar.length:Int)) == 0) (fun Ai=>?_) (fun Ai=>?_)
     · have h:=bif_t Ai h
       refine rB k 23 z Ai fun k=>dN [4,5,6,7,8,9,10,11,12] 9 z k (by kernel_rfl) z s (fun _ _ _ _ _=>id) fun a k=>d_done (by kernel_rfl) ((nm_then ?_))
       refine wp_cond_true (k.ev z) (wr (pN 1 k z fun a k=>nn (wp_ret (rt_then (rt_block (rt_then (rt_then (rt_block (rt_then ?_)))))))))
       refine fS h k m z z
     have h:=bif_f Ai h
     refine rB k 23 z Ai fun k=>dN [6] 1 z k (by kernel_rfl) z s (fun _ _ _ _ _=>id) fun a k=>dt k 4 z (by kernel_rfl) z s (fun _ _ _=>id) (fun w s=>r_ldA ta38 (At.at ((hMd.step s).a 1 z) 0 10 z z z) z k z z) fun a k=>dt k 5 z (by kernel_rfl) z s (fun _ _ _=>id) (fun w s=>r_ldA ta58 (Ah.at ((hMd.step s).a 2 z) 0 2 z z z) z k z z) fun a k=>dt k 8 z (by kernel_rfl) z s (fun _ _ _=>id) (fun w s=>r_fa fa38_1 k z z) fun a k=>dt k 9 z (by kernel_rfl) z s (fun _ _ _=>id) (fun w s=>r_fa fa33_3 k z z) fun a k=>dt k 10 z (by kernel_rfl) z s (fun _ _ _=>id) (fun w s=>r_ld1 t13 (r:=[]) (At.at ((hMd.step s).a 1 z) 4 1 z z z) k z z) fun a k=>d_one 7 (by kernel_rfl) z (oE h fun Cf Bi h=>?_)
     refine cE k m call217 z z z (c_spec_PalletGram fu _ _ _ (show rd _ _ [I r1.fWay,I r1.fPallet.fW,I r1.fPallet.fD,I r1.fPallet.fH,I r1.fPallet.fGram,I r1.fClasses,v9,Ay,I r1.fMaster,Be] (r1:Request) from ⟨_,_,_,_,_,_,z,z,(Enc.rd_agr Bb (m.a00 (Enc.rd_lt Bb))),(Enc.rd_agr Az (m.a00 (Enc.rd_lt Az))),(Enc.rd_agr Aw (m.a00 (Enc.rd_lt Aw)))⟩) (show rd _ _ [Ao,Aq] (x5:Plan) from ⟨_,_,_,_,z,z,(Enc.rd_agr Aa (m.a00 (Enc.rd_lt Aa))),(Enc.rd_agr Ag (m.a00 (Enc.rd_lt Ag)))⟩) Bi) fun Cs e a k m=>?_
     have s:=s.trans e (by simp)
     refine wpList_nil ⟨s,?_⟩
     refine dN [11,12] 2 z k (by kernel_rfl) z s (fun _ _ _ _ _=>id) fun a k=>d_done (by kernel_rfl) ((nm_then ?_))
     refine cI h k z (fun Bq h=>?_) fun Bq h=>?_
     · refine wr (pN 1 k z fun a k=>nn (wp_ret (rt_then (rt_block (rt_then (rt_then (rt_block (rt_then ?_))))))))
       refine fS h k m z z
     refine wp_skip (nm_then ?_)
     exact ⟨k.keep [2,3,5,6,7] z,m.sel [1,2,0] z (by decide),h⟩
   refine wp_exit (ex_then (ex_then (ex_same (nm_then ?_))))
   refine wr (pN 1 k z fun a k=>nn (wp_ret (fS h k m z z)))
 exact ⟨0,k.keep [2,3,5,6] z,m.sel [1,0] z (by decide),h⟩
theorem c_spec_Check (fu:Nat) {w0:World} (r1:Request) (x5:Plan) {Ar:List Value} {F3:List Nat} (Bb:rd w0 F3 Ar r1) {Ap:List Value} {F7:List Nat} (Bk:rd w0 F7 Ap x5) {r:Int}
    (h:d_spec_Check fu r1 x5 = some r) :
    Calls Tryz.prog 33 #[.agg Ar.toArray,.agg Ap.toArray] w0 fun e w=>e = .returned (I r) ∧ Ext [] w0 w:=by
 refine enter (vs:=[_,_]) func33 z ntmps33 z fun a k=>?_
 have m:=St.start w0
 obtain ⟨v9,Co,Aj,Cb,Ai,Ce,rfl,rfl,Ad,Ac,Ae⟩:=Bb
 obtain ⟨Ag,Cr,Af,Ct,rfl,rfl,Aa,Ab⟩:=Bk
 unfold d_spec_Check at h
 refine wr (s_box (cs:=[I r1.fWay,I r1.fPallet.fW,I r1.fPallet.fD,I r1.fPallet.fH,I r1.fPallet.fGram,I r1.fClasses,v9,Aj,I r1.fMaster,Ai]) m k z z z z z z fun Ao Az a k m e Ak=>s_box (cs:=[Ag,Af]) m k z z z z z z fun Aq Bq a k m e Ah=>pN 1 k z fun a k=>nn (wp_seq (wr (sv k z (r_ldB ta38 m 1 Ak 0 k z z z z z z) fun a k=>oE h fun Ci Ay h=>?_))))
 refine cE k m call74 z z z (c_spec_Class fu _ (show rd _ _ [I r1.fWay,I r1.fPallet.fW,I r1.fPallet.fD,I r1.fPallet.fH,I r1.fPallet.fGram,I r1.fClasses,v9,Aj,I r1.fMaster,Ai] (r1:Request) from ⟨_,_,_,_,_,_,z,z,(Enc.rd_agr Ad (m.a00 (Enc.rd_lt Ad))),(Enc.rd_agr Ac (m.a00 (Enc.rd_lt Ac))),(Enc.rd_agr Ae (m.a00 (Enc.rd_lt Ae)))⟩) Ay) fun Bx e a k m=>pN 1 k z fun a k=>nn (cI h k z (fun Bl h=>?_) fun Bl h=>?_)
 · refine wr (pN 1 k z fun a k=>nn (wp_ret (rt_then ?_)))
   refine fS h k m z z
 refine wp_skip (nm_then ?_)
 refine c_cut (fun a w=>K 54 [(2,.pointer (some (⟨Ao,0,none⟩:Addr))),(3,.pointer (some (⟨Aq,0,none⟩:Addr)))] a ∧ St [] w0 w [([Ao],Az),([Aq],Bq)] ∧ d_spec_Check_J1 fu r1 x5 = some r) ?_ ?_
 · rintro a Bv ⟨k,m,h⟩
   unfold d_spec_Check_J1 at h
   refine wr (sv k z (r_ldB ta38 m 0 Ak 0 k z z z z z z) fun a k=>oE h fun Cj As h=>s_call k call90 z z z z z (c_spec_l6Units fu _ (show rd _ _ [I r1.fWay,I r1.fPallet.fW,I r1.fPallet.fD,I r1.fPallet.fH,I r1.fPallet.fGram,I r1.fClasses,v9,Aj,I r1.fMaster,Ai] (r1:Request) from ⟨_,_,_,_,_,_,z,z,(Enc.rd_agr Ad (m.a00 (Enc.rd_lt Ad))),(Enc.rd_agr Ac (m.a00 (Enc.rd_lt Ac))),(Enc.rd_agr Ae (m.a00 (Enc.rd_lt Ae)))⟩) As) fun Ck Cp hR=>?_)
   obtain ⟨Bw,Bg,rfl,e,Am,Bn⟩:=hR
   refine ⟨_,z,fun a k=>?_⟩
   have m:=m.new e Bg (fun b hb=>⟨Bn b hb,Enc.rd_lt (Enc.ow_rd Am) b hb⟩) (Enc.ow_nd Am)
   refine pN 1 k z fun a k=>nn (wp_seq (wp_block (wr (pN 1 k z fun a k=>sv k z (r_ldB ta58 m 2 Ah 0 k z z z z z z) fun a k=>oE h fun Cm Bi h=>cE k m call106 z z z (c_spec_l15Units fu _ _ (Enc.rd_agr (Enc.ow_rd Am) (m.a 0 z)) (show rd _ _ [Ag,Af] (x5:Plan) from ⟨_,_,_,_,z,z,(Enc.rd_agr Aa (m.a00 (Enc.rd_lt Aa))),(Enc.rd_agr Ab (m.a00 (Enc.rd_lt Ab)))⟩) Bi) fun By e a k m=>pN 2 k z fun a k=>nn (cI h k z (fun Br h=>?_) fun Br h=>?_)))))
   · refine wr (pN 1 k z fun a k=>nn (wp_ret (rt_block (rt_then ?_))))
     refine fS h k m z z
   refine wr (sv k z (r_ldB ta38 m 1 Ak 0 k z z z z z z) fun a k=>sv k z (r_ldB ta58 m 2 Ah 0 k z z z z z z) fun a k=>oE h fun Cf Bs h=>cE k m call107 z z z (c_spec_l15Holds fu _ _ (show rd _ _ [I r1.fWay,I r1.fPallet.fW,I r1.fPallet.fD,I r1.fPallet.fH,I r1.fPallet.fGram,I r1.fClasses,v9,Aj,I r1.fMaster,Ai] (r1:Request) from ⟨_,_,_,_,_,_,z,z,(Enc.rd_agr Ad (m.a00 (Enc.rd_lt Ad))),(Enc.rd_agr Ac (m.a00 (Enc.rd_lt Ac))),(Enc.rd_agr Ae (m.a00 (Enc.rd_lt Ae)))⟩) (show rd _ _ [Ag,Af] (x5:Plan) from ⟨_,_,_,_,z,z,(Enc.rd_agr Aa (m.a00 (Enc.rd_lt Aa))),(Enc.rd_agr Ab (m.a00 (Enc.rd_lt Ab)))⟩) Bs) fun Cd e a k m=>pN 2 k z fun a k=>nn (cI h k z (fun Au h=>?_) fun Au h=>?_))
   · refine wr (pN 1 k z fun a k=>nn (wp_ret (rt_block (rt_then ?_))))
     refine fS h k m z z
   refine wr (sv k z (r_ldB ta38 m 1 Ak 0 k z z z z z z) fun a k=>pN 1 k z fun a k=>sv k z (r_ldB ta58 m 2 Ah 0 k z z z z z z) fun a k=>oE h fun Cs Bj h=>cE k m call108 z z z (c_spec_l15Group fu _ _ _ (show rd _ _ [I r1.fWay,I r1.fPallet.fW,I r1.fPallet.fD,I r1.fPallet.fH,I r1.fPallet.fGram,I r1.fClasses,v9,Aj,I r1.fMaster,Ai] (r1:Request) from ⟨_,_,_,_,_,_,z,z,(Enc.rd_agr Ad (m.a00 (Enc.rd_lt Ad))),(Enc.rd_agr Ac (m.a00 (Enc.rd_lt Ac))),(Enc.rd_agr Ae (m.a00 (Enc.rd_lt Ae)))⟩) (Enc.rd_agr (Enc.ow_rd Am) (m.a 0 z)) (show rd _ _ [Ag,Af] (x5:Plan) from ⟨_,_,_,_,z,z,(Enc.rd_agr Aa (m.a00 (Enc.rd_lt Aa))),(Enc.rd_agr Ab (m.a00 (Enc.rd_lt Ab)))⟩) Bj) fun Bt e a k m=>?_)
   refine pN 2 k z fun a k=>nn (cI h k z (fun Bd h=>?_) fun Bd h=>?_)
   · refine wr (pN 1 k z fun a k=>nn (wp_ret (rt_block (rt_then ?_))))
     refine fS h k m z z
   refine wr (sv k z (r_ldB ta38 m 1 Ak 0 k z z z z z z) fun a k=>sv k z (r_ldB ta58 m 2 Ah 0 k z z z z z z) fun a k=>oE h fun Bz Av h=>cE k m call109 z z z (c_spec_l15Cheap fu _ _ (show rd _ _ [I r1.fWay,I r1.fPallet.fW,I r1.fPallet.fD,I r1.fPallet.fH,I r1.fPallet.fGram,I r1.fClasses,v9,Aj,I r1.fMaster,Ai] (r1:Request) from ⟨_,_,_,_,_,_,z,z,(Enc.rd_agr Ad (m.a00 (Enc.rd_lt Ad))),(Enc.rd_agr Ac (m.a00 (Enc.rd_lt Ac))),(Enc.rd_agr Ae (m.a00 (Enc.rd_lt Ae)))⟩) (show rd _ _ [Ag,Af] (x5:Plan) from ⟨_,_,_,_,z,z,(Enc.rd_agr Aa (m.a00 (Enc.rd_lt Aa))),(Enc.rd_agr Ab (m.a00 (Enc.rd_lt Ab)))⟩) Av) fun Cn e a k m=>pN 2 k z fun a k=>nn (cI h k z (fun Ax h=>?_) fun Ax h=>?_))
   · refine wr (pN 1 k z fun a k=>?_)
     have k:=k.keep [4] z
     refine nn (wp_ret (rt_block (rt_then ?_)))
     refine fS h k m z z
   refine wr (sv k z (r_ldB ta38 m 1 Ak 0 k z z z z z z) fun a k=>sv k z (r_ldB ta58 m 2 Ah 0 k z z z z z z) fun a k=>oE h fun Cq Aw h=>cE k m call110 z z z (c_spec_l15Inside fu _ _ (show rd _ _ [I r1.fWay,I r1.fPallet.fW,I r1.fPallet.fD,I r1.fPallet.fH,I r1.fPallet.fGram,I r1.fClasses,v9,Aj,I r1.fMaster,Ai] (r1:Request) from ⟨_,_,_,_,_,_,z,z,(Enc.rd_agr Ad (m.a00 (Enc.rd_lt Ad))),(Enc.rd_agr Ac (m.a00 (Enc.rd_lt Ac))),(Enc.rd_agr Ae (m.a00 (Enc.rd_lt Ae)))⟩) (show rd _ _ [Ag,Af] (x5:Plan) from ⟨_,_,_,_,z,z,(Enc.rd_agr Aa (m.a00 (Enc.rd_lt Aa))),(Enc.rd_agr Ab (m.a00 (Enc.rd_lt Ab)))⟩) Aw) fun Bu e a k m=>pN 2 k z fun a k=>?_)
   have k:=k.keep [2,3,39] z
   refine nn (cI h k z (fun Bf h=>?_) fun Bf h=>?_)
   · refine wr (pN 1 k z fun a k=>nn (wp_ret (rt_block (rt_then ?_))))
     refine fS h k m z z
   refine wr (sv k z (r_ldB ta38 m 1 Ak 0 k z z z z z z) fun a k=>sv k z (r_ldB ta58 m 2 Ah 0 k z z z z z z) fun a k=>oE h fun Cl Bc h=>cE k m call111 z z z (c_spec_l15Apart fu _ _ (show rd _ _ [I r1.fWay,I r1.fPallet.fW,I r1.fPallet.fD,I r1.fPallet.fH,I r1.fPallet.fGram,I r1.fClasses,v9,Aj,I r1.fMaster,Ai] (r1:Request) from ⟨_,_,_,_,_,_,z,z,(Enc.rd_agr Ad (m.a00 (Enc.rd_lt Ad))),(Enc.rd_agr Ac (m.a00 (Enc.rd_lt Ac))),(Enc.rd_agr Ae (m.a00 (Enc.rd_lt Ae)))⟩) (show rd _ _ [Ag,Af] (x5:Plan) from ⟨_,_,_,_,z,z,(Enc.rd_agr Aa (m.a00 (Enc.rd_lt Aa))),(Enc.rd_agr Ab (m.a00 (Enc.rd_lt Ab)))⟩) Bc) fun Cu e a k m=>pN 2 k z fun a k=>nn (cI h k z (fun Be h=>?_) fun Be h=>?_))
   · refine wr (pN 1 k z fun a k=>nn (wp_ret (rt_block (rt_then ?_))))
     refine fS h k m z z
   refine wr (sv k z (r_ldB ta38 m 1 Ak 0 k z z z z z z) fun a k=>sv k z (r_ldB ta58 m 2 Ah 0 k z z z z z z) fun a k=>oE h fun Cv Bo h=>cE k m call112 z z z (c_spec_l15Pallets fu _ _ (show rd _ _ [I r1.fWay,I r1.fPallet.fW,I r1.fPallet.fD,I r1.fPallet.fH,I r1.fPallet.fGram,I r1.fClasses,v9,Aj,I r1.fMaster,Ai] (r1:Request) from ⟨_,_,_,_,_,_,z,z,(Enc.rd_agr Ad (m.a00 (Enc.rd_lt Ad))),(Enc.rd_agr Ac (m.a00 (Enc.rd_lt Ac))),(Enc.rd_agr Ae (m.a00 (Enc.rd_lt Ae)))⟩) (show rd _ _ [Ag,Af] (x5:Plan) from ⟨_,_,_,_,z,z,(Enc.rd_agr Aa (m.a00 (Enc.rd_lt Aa))),(Enc.rd_agr Ab (m.a00 (Enc.rd_lt Ab)))⟩) Bo) fun Ca e a k m=>pN 2 k z fun a k=>nn ?_)
   refine cI h k z (fun Bp h=>?_) fun Bp h=>?_
   · refine wr (pN 1 k z fun a k=>nn (wp_ret (rt_block (rt_then ?_))))
     refine fS h k m z z
   refine wp_skip (nm_block (nm_then ?_))
   refine wr (pN 1 k z fun a k=>nn (wp_ret (fS h k m z z)))
 refine wr (sv k z (r_ldB ta58 m 0 Ah 0 k z z z z z z) fun a k=>oE h fun Bm At h=>cE k m call104 z z z (c_spec_PlanOk fu _ (show rd _ _ [Ag,Af] (x5:Plan) from ⟨_,_,_,_,z,z,(Enc.rd_agr Aa (m.a00 (Enc.rd_lt Aa))),(Enc.rd_agr Ab (m.a00 (Enc.rd_lt Ab)))⟩) At) fun Cg e a k m=>pN 2 k z fun a k=>bsplit (!Bm) (fun Al=>?_) (fun Al=>?_))
 · have h:=bif_t Al h
   refine rB k 12 z Al fun k=>pN 3 k z fun a k=>nn (wp_cond_true (k.ev z) (wr (pN 1 k z fun a k=>nn (wp_ret (rt_then ?_)))))
   refine fS h k m z z
 have h:=bif_f Al h
 refine rB k 12 z Al fun k=>sv k z (r_ldB ta58 m 0 Ah 0 k z z z z z z) fun a k=>oE h fun Cc Ba h=>cE k m call105 z z z (c_spec_l15Empty fu _ (show rd _ _ [Ag,Af] (x5:Plan) from ⟨_,_,_,_,z,z,(Enc.rd_agr Aa (m.a00 (Enc.rd_lt Aa))),(Enc.rd_agr Ab (m.a00 (Enc.rd_lt Ab)))⟩) Ba) fun Ch e a k m=>pN 1 k z fun a k=>nn (cI h k z (fun Bh h=>?_) fun Bh h=>?_)
 · refine wr (pN 1 k z fun a k=>nn (wp_ret (rt_then ?_)))
   refine fS h k m z z
 refine wp_skip (nm_then ?_)
 exact ⟨k.keep [2,3] z,m.sel [1,0] z (by decide),h⟩
theorem c_spec_Feasible (fu:Nat) {w0:World} (r1:Request) (x5:Plan) {Ah:List Value} {F3:List Nat} (Am:rd w0 F3 Ah r1) {Ac:List Value} {F7:List Nat} (Aq:rd w0 F7 Ac x5) {r:Bool}
    (h:d_spec_Feasible fu r1 x5 = some r) :
    Calls Tryz.prog 37 #[.agg Ah.toArray,.agg Ac.toArray] w0 fun e w=>e = .returned (.bool (r)) ∧ Ext [] w0 w:=by
 refine enter (vs:=[_,_]) func37 z ntmps37 z fun a k=>?_
 have m:=St.start w0
 obtain ⟨v9,Ay,Aj,Av,Ai,Aw,rfl,rfl,Ad,Aa,Ag⟩:=Am
 obtain ⟨Ak,Az,Af,Ba,rfl,rfl,Ab,Ae⟩:=Aq
 unfold d_spec_Feasible at h
 refine wr (s_box (cs:=[I r1.fWay,I r1.fPallet.fW,I r1.fPallet.fD,I r1.fPallet.fH,I r1.fPallet.fGram,I r1.fClasses,v9,Aj,I r1.fMaster,Ai]) m k z z z z z z fun Ar As a k m e Ao=>s_box (cs:=[Ak,Af]) m k z z z z z z fun Au Bb a k m e Ap=>pN 1 k z fun a k=>nn (wr (sv k z (r_ldB ta38 m 1 Ao 0 k z z z z z z) fun a k=>sv k z (r_ldB ta58 m 0 Ap 0 k z z z z z z) fun a k=>oE h fun Ax Al h=>?_)))
 refine cE k m call33 z z z (c_spec_Check fu _ _ (show rd _ _ [I r1.fWay,I r1.fPallet.fW,I r1.fPallet.fD,I r1.fPallet.fH,I r1.fPallet.fGram,I r1.fClasses,v9,Aj,I r1.fMaster,Ai] (r1:Request) from ⟨_,_,_,_,_,_,z,z,(Enc.rd_agr Ad (m.a00 (Enc.rd_lt Ad))),(Enc.rd_agr Aa (m.a00 (Enc.rd_lt Aa))),(Enc.rd_agr Ag (m.a00 (Enc.rd_lt Ag)))⟩) (show rd _ _ [Ak,Af] (x5:Plan) from ⟨_,_,_,_,z,z,(Enc.rd_agr Ab (m.a00 (Enc.rd_lt Ab))),(Enc.rd_agr Ae (m.a00 (Enc.rd_lt Ae)))⟩) Al) fun At e a k m=>pN 2 k z fun a k=>nn (wp_ret (fS h k m z z))

end Go.Proofs.YtkkfmjpbiimkbaaGreat
