/- FnExactFront: the walks of functions that it reaches (ExactFrontBWs,part 3). Printed by gen.py. -/
import Derived.Test.YtlmibnlfkmiikaaGreatExactFrontBWs2
set_option maxRecDepth 20000
set_option linter.unusedSimpArgs false
set_option linter.unusedVariables false
namespace Go.Proofs.YtlmibnlfkmiikaaGreat
open Go Go.RowKit
open Enc (rd ow)
open Arg (argv)
open Ret (retv)
open Go.Proofs.Tryz

theorem c_spec_l15Cheap (fu:Nat) {w0:World} (r1:Request) (x5:Plan) {Ay:List Value} {F3:List Nat} (Bv:rd w0 F3 Ay r1) {Aw:List Value} {F7:List Nat} (Cb:rd w0 F7 Aw x5) {r:Bool}
    (h:d_spec_l15Cheap fu r1 x5 = some r) :
    Calls Tryz.prog 114 #[.agg Ay.toArray,.agg Aw.toArray] w0 fun e w=>e = .returned (.bool (r)) ∧ Ext [] w0 w:=by
 refine enter (vs:=[_,_]) func114 z ntmps114 z fun a k=>?_
 have m:=St.start w0
 obtain ⟨v9,Cg,Ar,Cx,Ap,Cz,rfl,rfl,Aj,Ao,Am⟩:=Bv
 obtain ⟨Bc,Cf,Bb,Ch,rfl,rfl,Ae,Cl⟩:=Cb
 unfold d_spec_l15Cheap at h
 refine wr (s_box (cs:=[I r1.fWay,I r1.fPallet.fW,I r1.fPallet.fD,I r1.fPallet.fH,I r1.fPallet.fGram,I r1.fClasses,v9,Ar,I r1.fMaster,Ap]) m k z z z z z z fun Ag At a k m e Bu=>s_box (cs:=[Bc,Bb]) m k z z z z z z fun Af As a k m e Aq=>pN 1 k z fun a k=>nn (wp_seq (wr (pN 1 k z fun a k=>nn (wp_block (c_loop (fun n a w=>∃ (Ad:Int),K 39 [(2,.pointer (some (⟨Ag,0,none⟩:Addr))),(3,.pointer (some (⟨Af,0,none⟩:Addr))),(5,I Ad)] a ∧ St [] w0 w [([Ag],At),([Af],As)] ∧ d_spec_l15Cheap_L1 fu r1 x5 n Ad = some r) ?_ ?_ fu _ _ ?_))))))
 · rintro a w ⟨_,_,_,h⟩
   exact nS h
 · rintro Az a Cv ⟨Ad,k,m,h⟩
   rw [d_spec_l15Cheap_L1_s] at h
   unfold d_spec_l15Cheap_L1_B at h
   refine wp_seq (wr (pN 1 k z fun a k=>sv k z (r_fa fa74_0 k z z) fun a k=>sv k z (r_ldb t143 m 1 Aq 0 k z z z z z) fun a k=>sv k z (r_len (α:=Carton) Ae k underlying43 z z) fun a k=>pN 1 k z fun a k=>nn (cI h k z (fun Br h=>?_) fun Br h=>?_)))
   · refine wp_skip (nm_then ?_)
     refine c_cut (fun a w=>K 39 [(2,.pointer (some (⟨Ag,0,none⟩:Addr))),(3,.pointer (some (⟨Af,0,none⟩:Addr))),(5,I Ad)] a ∧ St [] w0 w [([Ag],At),([Af],As)] ∧ d_spec_l15Cheap_J1 fu (d_spec_l15Cheap_L1 fu r1 x5 Az) Ad = some r) ?_ ?_
     · rintro a Db ⟨k,m,h⟩
       unfold d_spec_l15Cheap_J1 at h
       refine wp_region_lit (pN 3 k z fun a k=>nn ?_)
       exact ⟨w64 (Ad + 1),k.keep [2,3,5] z,m.sel [0,1] z (by decide),h⟩
     refine wp_block (c_cut (fun a w=>∃ (Aa:Typ) (Ak:Nat) (Au:World) (Al:Bool),K 39 [(2,.pointer (some (⟨Ag,0,none⟩:Addr))),(3,.pointer (some (⟨Af,0,none⟩:Addr))),(5,I Ad),(6,.pointer (some (⟨Ak,0,none⟩:Addr))),(7,.bool (Al))] a ∧ St [] w0 w [([Ag],At),([Af],As),([Ak],Au)] ∧ bx Au Ak [I Aa.fId,I Aa.fW,I Aa.fH,I Aa.fD,I Aa.fTare,I Aa.fGram,I Aa.fCost] 38 ∧ d_spec_l15Cheap_J2 fu (d_spec_l15Cheap_L1 fu r1 x5 Az) x5 Ad Aa Al = some r) ?_ ?_)
     · rintro a Cn ⟨Aa,Ak,Au,Al,k,m,Bg,h⟩
       unfold d_spec_l15Cheap_J2 at h
       refine wp_seq (d_go [] mixo m z fun Bm hMd=>?_)
       have m:=hMd
       have s:=Ext.refl ([]:List Nat) Bm
       refine dN [0,1,2] 3 z k (by kernel_rfl) z s (fun _ _ _ _ _=>id) fun a k=>bsplit (!Al) (fun Ah=>?_) (fun Ah=>?_)
       · have h:=bif_t Ah h
         refine rB k 28 z Ah fun k=>dN [3,4,5,6,7,8,9,10,11,12] 10 z k (by kernel_rfl) z s (fun _ _ _ _ _=>id) fun a k=>d_done (by kernel_rfl) ((nm_then ?_))
         refine wp_cond_true (k.ev z) (wr (pN 1 k z fun a k=>nn (wp_ret (rt_block (rt_then (rt_then (rt_block (rt_then ?_))))))))
         refine fS h k m z z
       have h:=bif_f Ah h
       refine rB k 28 z Ah fun k=>dN [7] 1 z k (by kernel_rfl) z s (fun _ _ _ _ _=>id) fun a k=>dt k 3 z (by kernel_rfl) z s (fun _ _ _=>id) (fun w s=>r_fa fa38_0 k z z) fun a k=>dt k 4 z (by kernel_rfl) z s (fun _ _ _=>id) (fun w s=>r_ld1 t13 (r:=[]) (Bg.at ((hMd.step s).a 2 z) 0 1 z z z) k z z) fun a k=>dt k 5 z (by kernel_rfl) z s (fun _ _ _=>id) (fun w s=>r_fa fa74_0 k z z) fun a k=>dt k 6 z (by kernel_rfl) z s (fun _ _ _=>id) (fun w s=>r_ld1 t143 (r:=[]) (Aq.at ((hMd.step s).a 1 z) 0 1 z z z) k z z) fun a k=>oE h fun Cq Ax h=>dt k 8 z (by kernel_rfl) z s (fun _ _ _=>id) (fun w s=>r_ixa Ae Ax k ts43 z z z) fun a k=>dt k 9 z (by kernel_rfl) z s (fun _ _ _=>id) (fun w s=>r_fa fa33_0 k z z) fun a k=>?_
       obtain ⟨Ct,Cr,Cw,Bl,Bd,Bz⟩:=rd_get Ae (ix_some Ax).2.2
       obtain ⟨Cm,_,rfl,rfl,Cp⟩:=Bl
       refine dt k 10 z (by kernel_rfl) z s (fun _ _ _=>id) (fun w s=>r_ld1 t13 ((Bd.agr ((hMd.step s).a00 (Enc.rd_lt Ae)) Bz).fld 0 1 (Nat.le_of_ble_eq_true z)) k z z) fun a k=>dN [11,12] 2 z k (by kernel_rfl) z s (fun _ _ _ _ _=>id) fun a k=>d_done (by kernel_rfl) ((nm_then ?_))
       refine cI h k z (fun By h=>?_) fun By h=>?_
       · refine wr (pN 1 k z fun a k=>nn (wp_ret (rt_block (rt_then (rt_then (rt_block (rt_then ?_)))))))
         refine fS h k m z z
       refine wp_skip (nm_block (nm_then ?_))
       exact ⟨k.keep [2,3,5] z,m.sel [0,1] z (by decide),h⟩
     refine d_go [] mixo m z fun Ba hMd=>?_
     have m:=hMd
     have s:=Ext.refl ([]:List Nat) Ba
     refine dN [3] 1 z k (by kernel_rfl) z s (fun _ _ _ _ _=>id) fun a k=>dt k 0 z (by kernel_rfl) z s (fun _ _ _=>id) (fun w s=>r_ldA ta30 (Bu.at ((hMd.step s).a 0 z) 0 10 z z z) z k z z) fun a k=>dt k 1 z (by kernel_rfl) z s (fun _ _ _=>id) (fun w s=>r_fa fa74_0 k z z) fun a k=>dt k 2 z (by kernel_rfl) z s (fun _ _ _=>id) (fun w s=>r_ld1 t143 (r:=[]) (Aq.at ((hMd.step s).a 1 z) 0 1 z z z) k z z) fun a k=>oE h fun Da Av h=>dt k 4 z (by kernel_rfl) z s (fun _ _ _=>id) (fun w s=>r_ixa Ae Av k ts43 z z z) fun a k=>dt k 5 z (by kernel_rfl) z s (fun _ _ _=>id) (fun w s=>r_fa fa33_2 k z z) fun a k=>?_
     obtain ⟨Cu,Ck,Ci,Bs,Cd,Bn⟩:=rd_get Ae (ix_some Av).2.2
     obtain ⟨Ce,_,rfl,rfl,Ai⟩:=Bs
     refine dt k 6 z (by kernel_rfl) z s (fun _ _ _=>id) (fun w s=>r_ld1 t131 ((Cd.agr ((hMd.step s).a00 (Enc.rd_lt Ae)) Bn).fld 2 1 (Nat.le_of_ble_eq_true z)) k z z) fun a k=>d_two 7 11 (by kernel_rfl) z z ?_ ?_ 
     · refine oE h fun Ab Bt h=>cE k m call193 z z z (c_spec_Cheapest fu _ _ (show rd _ _ [I r1.fWay,I r1.fPallet.fW,I r1.fPallet.fD,I r1.fPallet.fH,I r1.fPallet.fGram,I r1.fClasses,v9,Ar,I r1.fMaster,Ap] (r1:Request) from ⟨_,_,_,_,_,_,z,z,(Enc.rd_agr Aj (m.a00 (Enc.rd_lt Aj))),(Enc.rd_agr Ao (m.a00 (Enc.rd_lt Ao))),(Enc.rd_agr Am (m.a00 (Enc.rd_lt Am)))⟩) (Enc.rd_agr Ai (m.a00 (Enc.rd_lt Ai))) Bt) fun Co e a k m=>?_
       have s:=s.trans e (by simp)
       refine wpList_nil ⟨s,?_⟩
       refine dN [8,9,10] 3 z k (by kernel_rfl) z s (fun _ _ _ _ _=>id) fun a k=>d_one 11 (by kernel_rfl) z (s_allocN (cs:=[I 0,I 0,I 0,I 0,I 0,I 0,I 0]) m k zeroValue38 z z z z z fun Bj Cj a k m e Bi Bf=>?_)
       have Bp:=lo1 (Nat.le_trans s.size Bf)
       have s:=s.trans e (by simp)
       refine wpList_nil ⟨s,?_⟩
       refine d_one 12 (by kernel_rfl) z (s_stb (cs':=[I Ab.1.fId,I Ab.1.fW,I Ab.1.fH,I Ab.1.fD,I Ab.1.fTare,I Ab.1.fGram,I Ab.1.fCost]) sizeOf38 m 0 Bi 0 k z z z z z z z z z z z fun Bh a k e m Cc=>?_)
       have s:=s.trans e (fun y hy=>Or.inr (Bp y hy))
       refine wpList_nil ⟨s,?_⟩
       refine dN [13] 1 z k (by kernel_rfl) z s (fun _ _ _ _ _=>id) fun a k=>d_done (by kernel_rfl) ((nm_then ?_))
       exact ⟨Ab.1,Bj,Bh,Ab.2,k.keep [2,3,5,6,7] z,m.sel [1,2,0] z (by decide),Cc,h⟩
     refine s_allocN (cs:=[I 0,I 0,I 0,I 0,I 0,I 0,I 0]) m k zeroValue38 z z z z z fun Bk Cs a k m e Be Bq=>?_
     have Bo:=lo1 (Nat.le_trans s.size Bq)
     have s:=s.trans e (by simp)
     refine wpList_nil ⟨s,?_⟩
     refine d_one 7 (by kernel_rfl) z (oE h fun Ac Bx h=>cE k m call193 z z z (c_spec_Cheapest fu _ _ (show rd _ _ [I r1.fWay,I r1.fPallet.fW,I r1.fPallet.fD,I r1.fPallet.fH,I r1.fPallet.fGram,I r1.fClasses,v9,Ar,I r1.fMaster,Ap] (r1:Request) from ⟨_,_,_,_,_,_,z,z,(Enc.rd_agr Aj (m.a00 (Enc.rd_lt Aj))),(Enc.rd_agr Ao (m.a00 (Enc.rd_lt Ao))),(Enc.rd_agr Am (m.a00 (Enc.rd_lt Am)))⟩) (Enc.rd_agr Ai (m.a00 (Enc.rd_lt Ai))) Bx) fun Cy e a k m=>?_)
     have s:=s.trans e (by simp)
     refine wpList_nil ⟨s,?_⟩
     refine dN [8,9,10] 3 z k (by kernel_rfl) z s (fun _ _ _ _ _=>id) fun a k=>d_one 12 (by kernel_rfl) z (s_stb (cs':=[I Ac.1.fId,I Ac.1.fW,I Ac.1.fH,I Ac.1.fD,I Ac.1.fTare,I Ac.1.fGram,I Ac.1.fCost]) sizeOf38 m 0 Be 0 k z z z z z z z z z z z fun Ca a k e m Bw=>?_)
     have s:=s.trans e (fun y hy=>Or.inr (Bo y hy))
     refine wpList_nil ⟨s,?_⟩
     refine dN [13] 1 z k (by kernel_rfl) z s (fun _ _ _ _ _=>id) fun a k=>d_done (by kernel_rfl) ((nm_then ?_))
     exact ⟨Ac.1,Bk,Ca,Ac.2,k.keep [2,3,5,6,7] z,m.sel [1,2,0] z (by decide),Bw,h⟩
   refine wp_exit (ex_then (ex_then (ex_same (nm_then ?_))))
   refine wr (pN 1 k z fun a k=>nn (wp_ret (fS h k m z z)))
 exact ⟨0,k.keep [2,3,5] z,m.sel [1,0] z (by decide),h⟩
theorem c_spec_Units (fu:Nat) {w0:World} (r1:Request) {Ae:List Value} {F3:List Nat} (Al:rd w0 F3 Ae r1) {r:(List Int)}
    (h:d_spec_Units fu r1 = some r) :
    Calls Tryz.prog 155 #[.agg Ae.toArray] w0 fun e w=>∃ (v0:Value) (G0:List Nat),e = .returned (v0) ∧ Ext [] w0 w ∧ ow w G0 [v0] r ∧ (∀ b ∈ G0,w0.heap.size ≤ b):=by
 refine enter (vs:=[_]) func155 z ntmps155 z fun a k=>?_
 have m:=St.start w0
 obtain ⟨v5,F6,v7,F8,v9,Av,rfl,rfl,Aa,Ab,Ac⟩:=Al
 unfold d_spec_Units at h
 refine wr (s_box (cs:=[I r1.fWay,I r1.fPallet.fW,I r1.fPallet.fD,I r1.fPallet.fH,I r1.fPallet.fGram,I r1.fClasses,v5,v7,I r1.fMaster,v9]) m k z z z z z z fun Aq Ax a k m e Af=>pN 1 k z fun a k=>nn (wp_seq (wr (sv k z (r_ldB ta30 m 0 Af 0 k z z z z z z) fun a k=>oE h fun As Ap h=>cE k m call19 z z z (c_spec_Class fu _ (show rd _ _ [I r1.fWay,I r1.fPallet.fW,I r1.fPallet.fD,I r1.fPallet.fH,I r1.fPallet.fGram,I r1.fClasses,v5,v7,I r1.fMaster,v9] (r1:Request) from ⟨_,_,_,_,_,_,z,z,(Enc.rd_agr Aa (m.a00 (Enc.rd_lt Aa))),(Enc.rd_agr Ab (m.a00 (Enc.rd_lt Ab))),(Enc.rd_agr Ac (m.a00 (Enc.rd_lt Ac)))⟩) Ap) fun Az e a k m=>?_))))
 refine pN 1 k z fun a k=>nn (cI h k z (fun Ah h=>?_) fun Ah h=>?_)
 · refine wr (s_bs (cs:=[]) (ps:=[]) te31 m k z z z z z z z (by decide) z (by exact (List.forall_mem_nil _)) fun Ai At Ay a k m e Am=>?_)
   have Ak:=ow_bx Am ([]:List Int) z z z
   refine pN 1 k z fun a k=>nn (wp_ret (rt_then ?_))
   cases h
   exact finR1 k z (RV.tmp k z) ⟨_,[Ai],z,m.ext,(Enc.ow_agr Ak (m.a 0 z)),(m.fresh 0 z)⟩
 refine wp_skip (nm_then ?_)
 refine wr (sv k z (r_ldB ta30 m 0 Af 0 k z z z z z z) fun a k=>oE h fun Aw Aj h=>s_call k call86 z z z z z (c_spec_l6Units fu _ (show rd _ _ [I r1.fWay,I r1.fPallet.fW,I r1.fPallet.fD,I r1.fPallet.fH,I r1.fPallet.fGram,I r1.fClasses,v5,v7,I r1.fMaster,v9] (r1:Request) from ⟨_,_,_,_,_,_,z,z,(Enc.rd_agr Aa (m.a00 (Enc.rd_lt Aa))),(Enc.rd_agr Ab (m.a00 (Enc.rd_lt Ab))),(Enc.rd_agr Ac (m.a00 (Enc.rd_lt Ac)))⟩) Aj) fun Au Ar hR=>?_)
 obtain ⟨Ba,Ag,rfl,e,Ad,Ao⟩:=hR
 refine ⟨_,z,fun a k=>?_⟩
 have m:=m.new e Ag (fun b hb=>⟨Ao b hb,Enc.rd_lt (Enc.ow_rd Ad) b hb⟩) (Enc.ow_nd Ad)
 refine pN 1 k z fun a k=>nn (wp_ret ?_)
 cases h
 exact finR1 k z (RV.tmp k z) ⟨_,Ag,z,m.ext,(Enc.ow_agr Ad (m.a 0 z)),(m.fresh 0 z)⟩
theorem c_spec_GramOf (fu:Nat) {w0:World} (r1:Request) (Aj:List Int) {Ay:List Value} {F3:List Nat} (Bm:rd w0 F3 Ay r1) {v6:Value} {F7:List Nat} (Ap:rd w0 F7 [v6] Aj) {r:Int}
    (h:d_spec_GramOf fu r1 Aj = some r) :
    Calls Tryz.prog 275 #[.agg Ay.toArray,v6] w0 fun e w=>e = .returned (I r) ∧ Ext [] w0 w:=by
 refine enter (vs:=[_,_]) func275 z ntmps275 z fun a k=>?_
 have m:=St.start w0
 obtain ⟨v9,Cc,Al,Bz,Ak,Cb,rfl,rfl,Af,Ah,Ae⟩:=Bm
 unfold d_spec_GramOf at h
 refine wr (s_box (cs:=[I r1.fWay,I r1.fPallet.fW,I r1.fPallet.fD,I r1.fPallet.fH,I r1.fPallet.fGram,I r1.fClasses,v9,Al,I r1.fMaster,Ak]) m k z z z z z z fun Ai Aw a k m e Ba=>pN 1 k z fun a k=>nn (wr (sv k z (r_ldB ta30 m 0 Ba 0 k z z z z z z) fun a k=>oE h fun Av Bf h=>?_)))
 refine s_call k call155 z z z z z (c_spec_Units fu _ (show rd _ _ [I r1.fWay,I r1.fPallet.fW,I r1.fPallet.fD,I r1.fPallet.fH,I r1.fPallet.fGram,I r1.fClasses,v9,Al,I r1.fMaster,Ak] (r1:Request) from ⟨_,_,_,_,_,_,z,z,(Enc.rd_agr Af (m.a00 (Enc.rd_lt Af))),(Enc.rd_agr Ah (m.a00 (Enc.rd_lt Ah))),(Enc.rd_agr Ae (m.a00 (Enc.rd_lt Ae)))⟩) Bf) fun Cg As hR=>?_
 obtain ⟨At,Aq,rfl,e,Ao,Bh⟩:=hR
 refine ⟨_,z,fun a k=>?_⟩
 have m:=m.new e Aq (fun b hb=>⟨Bh b hb,Enc.rd_lt (Enc.ow_rd Ao) b hb⟩) (Enc.ow_nd Ao)
 refine pN 1 k z fun a k=>nn (wr (pN 1 k z fun a k=>nn (wp_seq (wr (pN 1 k z fun a k=>nn (wp_block (c_loop (fun n a w=>∃ (Ag:Int) (Ad:Int),K 33 [(1,v6),(2,.pointer (some (⟨Ai,0,none⟩:Addr))),(5,At),(6,I Ag),(7,I Ad)] a ∧ St [] w0 w [([Ai],Aw),(Aq,As)] ∧ d_spec_GramOf_L1 fu r1 Aj Av n Ag Ad = some r) ?_ ?_ fu _ _ ?_)))))))
 · rintro a w ⟨_,_,_,_,h⟩
   exact nS h
 · rintro Ax a Ce ⟨Ag,Ad,k,m,h⟩
   rw [d_spec_GramOf_L1_s] at h
   unfold d_spec_GramOf_L1_B at h
   refine wp_seq (wr (pN 2 k z fun a k=>sv k z (r_len (α:=Int) Ap k underlying31 z z) fun a k=>pN 1 k z fun a k=>nn (cI h k z (fun Bt h=>?_) fun Bt h=>?_)))
   · refine wp_skip (nm_then ?_)
     refine c_cut (fun a w=>∃ (Am:Int),K 33 [(1,v6),(2,.pointer (some (⟨Ai,0,none⟩:Addr))),(5,At),(6,I Am),(7,I Ad)] a ∧ St [] w0 w [([Ai],Aw),(Aq,As)] ∧ d_spec_GramOf_J1 fu (d_spec_GramOf_L1 fu r1 Aj Av Ax) Ad Am = some r) ?_ ?_
     · rintro a Ca ⟨Am,k,m,h⟩
       unfold d_spec_GramOf_J1 at h
       refine wp_region_lit (pN 3 k z fun a k=>nn ?_)
       exact ⟨Am,w64 (Ad + 1),k.keep [1,2,5,6,7] z,m.sel [0,1] z (by decide),h⟩
     refine wp_block (c_cut (fun a w=>∃ (Aa:Item) (Ar:Nat) (Au:World),K 33 [(1,v6),(2,.pointer (some (⟨Ai,0,none⟩:Addr))),(5,At),(6,I Ag),(7,I Ad),(8,.pointer (some (⟨Ar,0,none⟩:Addr)))] a ∧ St [] w0 w [([Ai],Aw),(Aq,As),([Ar],Au)] ∧ bx Au Ar [I Aa.fId,I Aa.fW,I Aa.fH,I Aa.fD,I Aa.fGram,I Aa.fClass,I Aa.fCount] 97 ∧ d_spec_GramOf_J2 fu (d_spec_GramOf_L1 fu r1 Aj Av Ax) Ag Ad Aa = some r) ?_ ?_)
     · rintro a Cd ⟨Aa,Ar,Au,k,m,Bk,h⟩
       unfold d_spec_GramOf_J2 at h
       refine wp_region_lit (pN 1 k z fun a k=>sv k z (r_fa fa97_4 k z z) fun a k=>sv k z (r_ldb t13 m 2 Bk 4 k z z z z z) fun a k=>pN 2 k z fun a k=>wpList_nil (nm_block (nm_then ?_)))
       exact ⟨w64 (Ag + Aa.fGram),k.keep [1,2,5,6,7] z,m.sel [0,1] z (by decide),h⟩
     refine d_go [] mixo m z fun Bb hMd=>?_
     have m:=hMd
     have s:=Ext.refl ([]:List Nat) Bb
     refine dN [1,2,3] 3 z k (by kernel_rfl) z s (fun _ _ _ _ _=>id) fun a k=>dt k 0 z (by kernel_rfl) z s (fun _ _ _=>id) (fun w s=>r_ldA ta30 (Ba.at ((hMd.step s).a 0 z) 0 10 z z z) z k z z) fun a k=>oE h fun Bx Az h=>dt k 4 z (by kernel_rfl) z s (fun _ _ _=>id) (fun w s=>r_ixa Ap Az k ts31 z z z) fun a k=>dt k 5 z (by kernel_rfl) z s (fun _ _ _=>id) (fun w s=>r_lde1 Ap ((hMd.step s).a00 (Enc.rd_lt Ap)) Az 0 t13 k z z z z) fun a k=>d_two 6 10 (by kernel_rfl) z z ?_ ?_ 
     · refine oE h fun Ab Bl h=>cE k m call156 z z z (c_spec_l6Item fu _ _ _ (show rd _ _ [I r1.fWay,I r1.fPallet.fW,I r1.fPallet.fD,I r1.fPallet.fH,I r1.fPallet.fGram,I r1.fClasses,v9,Al,I r1.fMaster,Ak] (r1:Request) from ⟨_,_,_,_,_,_,z,z,(Enc.rd_agr Af (m.a00 (Enc.rd_lt Af))),(Enc.rd_agr Ah (m.a00 (Enc.rd_lt Ah))),(Enc.rd_agr Ae (m.a00 (Enc.rd_lt Ae)))⟩) (Enc.rd_agr (Enc.ow_rd Ao) (m.a 1 z)) Bl) fun By e a k m=>?_
       have s:=s.trans e (by simp)
       refine wpList_nil ⟨s,?_⟩
       refine dN [7,8,9] 3 z k (by kernel_rfl) z s (fun _ _ _ _ _=>id) fun a k=>d_one 10 (by kernel_rfl) z (s_allocN (cs:=[I 0,I 0,I 0,I 0,I 0,I 0,I 0]) m k zeroValue97 z z z z z fun Bn Bw a k m e Bu Bj=>?_)
       have Br:=lo1 (Nat.le_trans s.size Bj)
       have s:=s.trans e (by simp)
       refine wpList_nil ⟨s,?_⟩
       refine d_one 11 (by kernel_rfl) z (s_stb (cs':=[I Ab.1.fId,I Ab.1.fW,I Ab.1.fH,I Ab.1.fD,I Ab.1.fGram,I Ab.1.fClass,I Ab.1.fCount]) sizeOf97 m 0 Bu 0 k z z z z z z z z z z z fun Bo a k e m Bq=>?_)
       have s:=s.trans e (fun y hy=>Or.inr (Br y hy))
       refine wpList_nil ⟨s,?_⟩
       refine dN [12] 1 z k (by kernel_rfl) z s (fun _ _ _ _ _=>id) fun a k=>d_done (by kernel_rfl) ((nm_then ?_))
       exact ⟨Ab.1,Bn,Bo,k.keep [1,2,5,6,7,8] z,m.sel [1,2,0] z (by decide),Bq,h⟩
     refine s_allocN (cs:=[I 0,I 0,I 0,I 0,I 0,I 0,I 0]) m k zeroValue97 z z z z z fun Bc Bv a k m e Bi Bs=>?_
     have Be:=lo1 (Nat.le_trans s.size Bs)
     have s:=s.trans e (by simp)
     refine wpList_nil ⟨s,?_⟩
     refine d_one 6 (by kernel_rfl) z (oE h fun Ac Bd h=>cE k m call156 z z z (c_spec_l6Item fu _ _ _ (show rd _ _ [I r1.fWay,I r1.fPallet.fW,I r1.fPallet.fD,I r1.fPallet.fH,I r1.fPallet.fGram,I r1.fClasses,v9,Al,I r1.fMaster,Ak] (r1:Request) from ⟨_,_,_,_,_,_,z,z,(Enc.rd_agr Af (m.a00 (Enc.rd_lt Af))),(Enc.rd_agr Ah (m.a00 (Enc.rd_lt Ah))),(Enc.rd_agr Ae (m.a00 (Enc.rd_lt Ae)))⟩) (Enc.rd_agr (Enc.ow_rd Ao) (m.a 2 z)) Bd) fun Cf e a k m=>?_)
     have s:=s.trans e (by simp)
     refine wpList_nil ⟨s,?_⟩
     refine dN [7,8,9] 3 z k (by kernel_rfl) z s (fun _ _ _ _ _=>id) fun a k=>d_one 11 (by kernel_rfl) z (s_stb (cs':=[I Ac.1.fId,I Ac.1.fW,I Ac.1.fH,I Ac.1.fD,I Ac.1.fGram,I Ac.1.fClass,I Ac.1.fCount]) sizeOf97 m 0 Bi 0 k z z z z z z z z z z z fun Bp a k e m Bg=>?_)
     have s:=s.trans e (fun y hy=>Or.inr (Be y hy))
     refine wpList_nil ⟨s,?_⟩
     refine dN [12] 1 z k (by kernel_rfl) z s (fun _ _ _ _ _=>id) fun a k=>d_done (by kernel_rfl) ((nm_then ?_))
     exact ⟨Ac.1,Bc,Bp,k.keep [1,2,5,6,7,8] z,m.sel [1,2,0] z (by decide),Bg,h⟩
   refine wp_exit (ex_then (ex_then (ex_same (nm_then ?_))))
   refine wr (pN 2 k z fun a k=>nn (wp_ret (fS h k m z z)))
 exact ⟨0,0,k.keep [1,2,5,6,7] z,m.sel [1,0] z (by decide),h⟩
theorem c_spec_Gross (fu:Nat) {w0:World} (r1:Request) (x5:Carton) {Aj:List Value} {F3:List Nat} (Bb:rd w0 F3 Aj r1) {Ai:List Value} {F7:List Nat} (Ba:rd w0 F7 Ai x5) {r:Int}
    (h:d_spec_Gross fu r1 x5 = some r) :
    Calls Tryz.prog 224 #[.agg Aj.toArray,.agg Ai.toArray] w0 fun e w=>e = .returned (I r) ∧ Ext [] w0 w:=by
 refine enter (vs:=[_,_]) func224 z ntmps224 z fun a k=>?_
 have m:=St.start w0
 obtain ⟨v9,Bk,Ag,Bg,Af,Bi,rfl,rfl,Ac,Ad,Ab⟩:=Bb
 obtain ⟨Aq,_,rfl,rfl,Ak⟩:=Ba
 unfold d_spec_Gross at h
 refine wr (s_box (cs:=[I r1.fWay,I r1.fPallet.fW,I r1.fPallet.fD,I r1.fPallet.fH,I r1.fPallet.fGram,I r1.fClasses,v9,Ag,I r1.fMaster,Af]) m k z z z z z z fun Al As a k m e Ah=>s_box (cs:=[I x5.fType,I x5.fGroup,Aq]) m k z z z z z z fun Am At a k m e Ap=>pN 1 k z fun a k=>nn (wr (sv k z (r_ldB ta30 m 1 Ah 0 k z z z z z z) fun a k=>sv k z (r_fa fa33_0 k z z) fun a k=>sv k z (r_ldb t13 m 0 Ap 0 k z z z z z) fun a k=>oE h fun Aa Au h=>?_)))
 refine cE k m call64 z z z (c_spec_TypeById fu _ _ (show rd _ _ [I r1.fWay,I r1.fPallet.fW,I r1.fPallet.fD,I r1.fPallet.fH,I r1.fPallet.fGram,I r1.fClasses,v9,Ag,I r1.fMaster,Af] (r1:Request) from ⟨_,_,_,_,_,_,z,z,(Enc.rd_agr Ac (m.a00 (Enc.rd_lt Ac))),(Enc.rd_agr Ad (m.a00 (Enc.rd_lt Ad))),(Enc.rd_agr Ab (m.a00 (Enc.rd_lt Ab)))⟩) Au) fun Be e a k m=>pN 3 k z fun a k=>s_alloc (cs:=[I 0,I 0,I 0,I 0,I 0,I 0,I 0]) m k zeroValue38 z z z z z fun Ao Bl a k m e Ay=>?_
 refine s_stb (cs':=[I Aa.1.fId,I Aa.1.fW,I Aa.1.fH,I Aa.1.fD,I Aa.1.fTare,I Aa.1.fGram,I Aa.1.fCost]) sizeOf38 m 0 Ay 0 k z z z z z z z z z z z fun Az a k e m Ax=>pN 1 k z fun a k=>nn (c_cut (fun a w=>K 28 [(2,.pointer (some (⟨Al,0,none⟩:Addr))),(3,.pointer (some (⟨Am,0,none⟩:Addr))),(5,.pointer (some (⟨Ao,0,none⟩:Addr)))] a ∧ St [] w0 w [([Al],As),([Am],At),([Ao],Az)] ∧ d_spec_Gross_J1 fu r1 x5 Aa = some r) ?_ ?_)
 · rintro a Bj ⟨k,m,h⟩
   unfold d_spec_Gross_J1 at h
   refine wp_seq (d_go [] mixo m z fun Av hMd=>?_)
   have m:=hMd
   have s:=Ext.refl ([]:List Nat) Av
   refine dt k 0 z (by kernel_rfl) z s (fun _ _ _=>id) (fun w s=>r_fa fa38_4 k z z) fun a k=>dt k 1 z (by kernel_rfl) z s (fun _ _ _=>id) (fun w s=>r_ld1 t13 (r:=[]) (Ax.at ((hMd.step s).a 2 z) 4 1 z z z) k z z) fun a k=>dt k 2 z (by kernel_rfl) z s (fun _ _ _=>id) (fun w s=>r_ldA ta30 (Ah.at ((hMd.step s).a 0 z) 0 10 z z z) z k z z) fun a k=>dt k 3 z (by kernel_rfl) z s (fun _ _ _=>id) (fun w s=>r_fa fa33_2 k z z) fun a k=>dt k 4 z (by kernel_rfl) z s (fun _ _ _=>id) (fun w s=>r_ld1 t131 (r:=[]) (Ap.at ((hMd.step s).a 1 z) 2 1 z z z) k z z) fun a k=>d_one 5 (by kernel_rfl) z (oE h fun Bf Aw h=>?_)
   refine cE k m call275 z z z (c_spec_GramOf fu _ _ (show rd _ _ [I r1.fWay,I r1.fPallet.fW,I r1.fPallet.fD,I r1.fPallet.fH,I r1.fPallet.fGram,I r1.fClasses,v9,Ag,I r1.fMaster,Af] (r1:Request) from ⟨_,_,_,_,_,_,z,z,(Enc.rd_agr Ac (m.a00 (Enc.rd_lt Ac))),(Enc.rd_agr Ad (m.a00 (Enc.rd_lt Ad))),(Enc.rd_agr Ab (m.a00 (Enc.rd_lt Ab)))⟩) (Enc.rd_agr Ak (m.a00 (Enc.rd_lt Ak))) Aw) fun Bh e a k m=>?_
   have s:=s.trans e (by simp)
   refine wpList_nil ⟨s,?_⟩
   refine dN [6,7] 2 z k (by kernel_rfl) z s (fun _ _ _ _ _=>id) fun a k=>d_done (by kernel_rfl) ((nm_then ?_))
   refine wp_ret (fS h k m z z)
 refine wr (sv k z (r_ldB ta30 m 2 Ah 0 k z z z z z z) fun a k=>oE h fun Ar Bd h=>cE k m call19 z z z (c_spec_Class fu _ (show rd _ _ [I r1.fWay,I r1.fPallet.fW,I r1.fPallet.fD,I r1.fPallet.fH,I r1.fPallet.fGram,I r1.fClasses,v9,Ag,I r1.fMaster,Af] (r1:Request) from ⟨_,_,_,_,_,_,z,z,(Enc.rd_agr Ac (m.a00 (Enc.rd_lt Ac))),(Enc.rd_agr Ad (m.a00 (Enc.rd_lt Ad))),(Enc.rd_agr Ab (m.a00 (Enc.rd_lt Ab)))⟩) Bd) fun Bm e a k m=>pN 2 k z fun a k=>bsplit (Ar != 0) (fun Ae=>?_) (fun Ae=>?_))
 · have h:=bif_t Ae h
   refine rB k 17 z Ae fun k=>pN 3 k z fun a k=>nn (wp_cond_true (k.ev z) (wr (pN 1 k z fun a k=>nn (wp_ret (rt_then ?_)))))
   refine fS h k m z z
 have h:=bif_f Ae h
 refine rB k 17 z Ae fun k=>pN 3 k z fun a k=>nn (cI h k z (fun Bc h=>?_) fun Bc h=>?_)
 · refine wr (pN 1 k z fun a k=>nn (wp_ret (rt_then ?_)))
   refine fS h k m z z
 refine wp_skip (nm_then ?_)
 exact ⟨k.keep [2,3,5] z,m.sel [2,1,0] z (by decide),h⟩
theorem c_spec_BoxOf (fu:Nat) {w0:World} (r1:Request) (x5:Carton) {Ao:List Value} {F3:List Nat} (Bi:rd w0 F3 Ao r1) {Al:List Value} {F7:List Nat} (Bh:rd w0 F7 Al x5) {r:Box}
    (h:d_spec_BoxOf fu r1 x5 = some r) :
    Calls Tryz.prog 133 #[.agg Ao.toArray,.agg Al.toArray] w0 fun e w=>e = .returned (.agg (Flat.e r).toArray) ∧ Ext [] w0 w:=by
 refine enter (vs:=[_,_]) func133 z ntmps133 z fun a k=>?_
 have m:=St.start w0
 obtain ⟨v9,Bp,Ag,Bm,Af,Bo,rfl,rfl,Ac,Ad,Ab⟩:=Bi
 obtain ⟨Am,_,rfl,rfl,Aq⟩:=Bh
 unfold d_spec_BoxOf at h
 refine wr (s_box (cs:=[I r1.fWay,I r1.fPallet.fW,I r1.fPallet.fD,I r1.fPallet.fH,I r1.fPallet.fGram,I r1.fClasses,v9,Ag,I r1.fMaster,Af]) m k z z z z z z fun Ap Az a k m e Aj=>s_box (cs:=[I x5.fType,I x5.fGroup,Am]) m k z z z z z z fun Ar Ba a k m e At=>s_alloc (cs:=[I 0,I 0,I 0,I 0]) m k zeroValue140 z z z z z fun Ah Av a k m e Ak=>nn (wr (sv k z (r_ldB ta30 m 2 Aj 0 k z z z z z z) fun a k=>sv k z (r_fa fa33_0 k z z) fun a k=>sv k z (r_ldb t13 m 1 At 0 k z z z z z) fun a k=>oE h fun Aa Bf h=>?_)))
 refine cE k m call64 z z z (c_spec_TypeById fu _ _ (show rd _ _ [I r1.fWay,I r1.fPallet.fW,I r1.fPallet.fD,I r1.fPallet.fH,I r1.fPallet.fGram,I r1.fClasses,v9,Ag,I r1.fMaster,Af] (r1:Request) from ⟨_,_,_,_,_,_,z,z,(Enc.rd_agr Ac (m.a00 (Enc.rd_lt Ac))),(Enc.rd_agr Ad (m.a00 (Enc.rd_lt Ad))),(Enc.rd_agr Ab (m.a00 (Enc.rd_lt Ab)))⟩) Bf) fun Br e a k m=>pN 3 k z fun a k=>s_alloc (cs:=[I 0,I 0,I 0,I 0,I 0,I 0,I 0]) m k zeroValue38 z z z z z fun Au Bq a k m e Be=>?_
 refine s_stb (cs':=[I Aa.1.fId,I Aa.1.fW,I Aa.1.fH,I Aa.1.fD,I Aa.1.fTare,I Aa.1.fGram,I Aa.1.fCost]) sizeOf38 m 0 Be 0 k z z z z z z z z z z z fun Ax a k e m Ai=>pN 1 k z fun a k=>nn (c_cut (fun a w=>K 32 [(2,.pointer (some (⟨Ap,0,none⟩:Addr))),(3,.pointer (some (⟨Ar,0,none⟩:Addr))),(4,.pointer (some (⟨Ah,0,none⟩:Addr))),(5,.pointer (some (⟨Au,0,none⟩:Addr)))] a ∧ St [] w0 w [([Ap],Az),([Ar],Ba),([Ah],Av),([Au],Ax)] ∧ d_spec_BoxOf_J1 fu r1 x5 Aa = some r) ?_ ?_)
 · rintro a Bn ⟨k,m,h⟩
   unfold d_spec_BoxOf_J1 at h
   refine wp_seq (d_go ([Ah]) mixo m z fun Bj hMd=>?_)
   have m:=hMd
   have s:=Ext.refl (([Ah]):List Nat) Bj
   refine dt k 0 z (by kernel_rfl) z s (fun _ _ _=>id) (fun w s=>r_fa fa38_1 k z z) fun a k=>dt k 1 z (by kernel_rfl) z s (fun _ _ _=>id) (fun w s=>r_ld1 t13 (r:=[]) (Ai.at (hMd.az 3 2 z z z s) 1 1 z z z) k z z) fun a k=>dt k 2 z (by kernel_rfl) z s (fun _ _ _=>id) (fun w s=>r_fa fa38_3 k z z) fun a k=>dt k 3 z (by kernel_rfl) z s (fun _ _ _=>id) (fun w s=>r_ld1 t13 (r:=[]) (Ai.at (hMd.az 3 2 z z z s) 3 1 z z z) k z z) fun a k=>dt k 4 z (by kernel_rfl) z s (fun _ _ _=>id) (fun w s=>r_fa fa38_2 k z z) fun a k=>dt k 5 z (by kernel_rfl) z s (fun _ _ _=>id) (fun w s=>r_ld1 t13 (r:=[]) (Ai.at (hMd.az 3 2 z z z s) 2 1 z z z) k z z) fun a k=>?_
   refine dt k 6 z (by kernel_rfl) z s (fun _ _ _=>id) (fun w s=>r_ldA ta30 (Aj.at (hMd.az 0 2 z z z s) 0 10 z z z) z k z z) fun a k=>dt k 7 z (by kernel_rfl) z s (fun _ _ _=>id) (fun w s=>r_ldA ta33 (At.at (hMd.az 1 2 z z z s) 0 3 z z z) z k z z) fun a k=>d_one 8 (by kernel_rfl) z (oE h fun As Bd h=>?_)
   refine cE k m call224 z z z (c_spec_Gross fu _ _ (show rd _ _ [I r1.fWay,I r1.fPallet.fW,I r1.fPallet.fD,I r1.fPallet.fH,I r1.fPallet.fGram,I r1.fClasses,v9,Ag,I r1.fMaster,Af] (r1:Request) from ⟨_,_,_,_,_,_,z,z,(Enc.rd_agr Ac (m.a00 (Enc.rd_lt Ac))),(Enc.rd_agr Ad (m.a00 (Enc.rd_lt Ad))),(Enc.rd_agr Ab (m.a00 (Enc.rd_lt Ab)))⟩) (show rd _ _ [I x5.fType,I x5.fGroup,Am] (x5:Carton) from ⟨_,_,z,z,(Enc.rd_agr Aq (m.a00 (Enc.rd_lt Aq)))⟩) Bd) fun Bl e a k m=>?_
   have s:=s.trans e (by simp)
   refine wpList_nil ⟨s,?_⟩
   refine dt k 9 z (by kernel_rfl) z s (fun _ _ _=>id) (fun w s=>r_build bt140 k (cs:=#[I Aa.1.fW,I Aa.1.fD,I Aa.1.fH,I As]) (ps:=[(0,.tmp 23),(1,.tmp 25),(2,.tmp 27),(3,.tmp 30)]) z z (by kernel_rfl)) fun a k=>d_one 10 (by kernel_rfl) z (s_stb (cs':=[I Aa.1.fW,I Aa.1.fD,I Aa.1.fH,I As]) sizeOf140 m 2 Ak 0 k z z z z z z z z z z z fun Bt a k e m Bg=>?_)
   have s:=s.trans e (fun y hy=>Or.inl hy)
   refine wpList_nil ⟨s,?_⟩
   refine d_done (by kernel_rfl) ((nm_then ?_))
   refine wp_ret ?_
   cases h
   exact finR1 k z (RV.cA k z ta140 (Bg.at (m.a 2 z) 0 4 z z z) z) ⟨z,m.ext⟩
 refine wr (sv k z (r_ldB ta30 m 3 Aj 0 k z z z z z z) fun a k=>oE h fun Bk Bb h=>cE k m call19 z z z (c_spec_Class fu _ (show rd _ _ [I r1.fWay,I r1.fPallet.fW,I r1.fPallet.fD,I r1.fPallet.fH,I r1.fPallet.fGram,I r1.fClasses,v9,Ag,I r1.fMaster,Af] (r1:Request) from ⟨_,_,_,_,_,_,z,z,(Enc.rd_agr Ac (m.a00 (Enc.rd_lt Ac))),(Enc.rd_agr Ad (m.a00 (Enc.rd_lt Ad))),(Enc.rd_agr Ab (m.a00 (Enc.rd_lt Ab)))⟩) Bb) fun Bu e a k m=>pN 2 k z fun a k=>bsplit (Bk != 0) (fun Ae=>?_) (fun Ae=>?_))
 · have h:=bif_t Ae h
   refine rB k 17 z Ae fun k=>pN 3 k z fun a k=>nn (wp_cond_true (k.ev z) (wr (sv k z (r_build bt140 k (cs:=#[I 0,I 0,I 0,I 0]) (ps:=[]) z z (by kernel_rfl)) fun a k=>s_stb (cs':=[I 0,I 0,I 0,I 0]) sizeOf140 m 1 Ak 0 k z z z z z z z z z z z fun Bv a k e m Aw=>nn (wp_ret (rt_then ?_)))))
   cases h
   exact finR1 k z (RV.cA k z ta140 (Aw.at (m.a 1 z) 0 4 z z z) z) ⟨z,m.ext⟩
 have h:=bif_f Ae h
 refine rB k 17 z Ae fun k=>pN 3 k z fun a k=>nn (cI h k z (fun Ay h=>?_) fun Ay h=>?_)
 · refine wr (sv k z (r_build bt140 k (cs:=#[I 0,I 0,I 0,I 0]) (ps:=[]) z z (by kernel_rfl)) fun a k=>s_stb (cs':=[I 0,I 0,I 0,I 0]) sizeOf140 m 1 Ak 0 k z z z z z z z z z z z fun Bs a k e m Bc=>nn (wp_ret (rt_then ?_)))
   cases h
   exact finR1 k z (RV.cA k z ta140 (Bc.at (m.a 1 z) 0 4 z z z) z) ⟨z,m.ext⟩
 refine wp_skip (nm_then ?_)
 exact ⟨k.keep [2,3,4,5] z,m.sel [3,2,1,0] z (by decide),h⟩
theorem c_spec_l12Known (fu:Nat) {w0:World} (b1:Box) (Aa:Spot)  {r:Bool}
    (h:d_spec_l12Known fu b1 Aa = some r) :
    Calls Tryz.prog 259 #[.agg (Flat.e (b1)).toArray,.agg (Flat.e (Aa)).toArray] w0 fun e w=>e = .returned (.bool (r)) ∧ Ext [] w0 w:=by
 refine enter (vs:=[_,_]) func259 z ntmps259 z fun a k=>?_
 have m:=St.start w0
 unfold d_spec_l12Known at h
 refine wr (s_box (cs:=[I b1.fW,I b1.fD,I b1.fH,I b1.fGram]) m k z z z z z z fun b3 w5 a k m e Ag=>s_box (cs:=[I Aa.fPallet,I Aa.fX,I Aa.fY,I Aa.fZ]) m k z z z z z z fun b6 w9 a k m e Ah=>pN 1 k z fun a k=>nn (wr (sv k z (r_fa fa140_0 k z z) fun a k=>sv k z (r_ldb t13 m 1 Ag 0 k z z z z z) fun a k=>oE h fun Ao Al h=>cE k m call142 z z z (c_spec_l1In fu _ _ _  Al) fun Av e a k m=>pN 1 k z fun a k=>bsplit (Ao) (fun Ac=>?_) (fun Ac=>?_))))
 · have h:=bif_t Ac h
   refine rB k 8 z Ac fun k=>sv k z (r_fa fa140_1 k z z) fun a k=>sv k z (r_ldb t13 m 1 Ag 1 k z z z z z) fun a k=>oE h fun As Ar h=>cE k m call142 z z z (c_spec_l1In fu _ _ _  Ar) fun Ba e a k m=>pN 2 k z fun a k=>bsplit (As) (fun Af=>?_) (fun Af=>?_)
   · have h:=bif_t Af h
     refine rB k 13 z Af fun k=>sv k z (r_fa fa140_2 k z z) fun a k=>sv k z (r_ldb t13 m 1 Ag 2 k z z z z z) fun a k=>oE h fun Am At h=>cE k m call142 z z z (c_spec_l1In fu _ _ _  At) fun Aw e a k m=>pN 2 k z fun a k=>bsplit (Am) (fun Ae=>?_) (fun Ae=>?_)
     · have h:=bif_t Ae h
       refine rB k 18 z Ae fun k=>sv k z (r_fa fa139_1 k z z) fun a k=>sv k z (r_ldb t13 m 0 Ah 1 k z z z z z) fun a k=>oE h fun Ap Ak h=>cE k m call142 z z z (c_spec_l1In fu _ _ _  Ak) fun Au e a k m=>pN 2 k z fun a k=>bsplit (Ap) (fun Ab=>?_) (fun Ab=>?_)
       · have h:=bif_t Ab h
         refine rB k 23 z Ab fun k=>sv k z (r_fa fa139_2 k z z) fun a k=>sv k z (r_ldb t13 m 0 Ah 2 k z z z z z) fun a k=>oE h fun Ai Aj h=>cE k m call142 z z z (c_spec_l1In fu _ _ _  Aj) fun Ax e a k m=>pN 2 k z fun a k=>bsplit (Ai) (fun Ad=>?_) (fun Ad=>?_)
         · have h:=bif_t Ad h
           refine rB k 28 z Ad fun k=>sv k z (r_fa fa139_3 k z z) fun a k=>sv k z (r_ldb t13 m 0 Ah 3 k z z z z z) fun a k=>oE h fun Ay Aq h=>cE k m call142 z z z (c_spec_l1In fu _ _ _  Aq) fun Az e a k m=>pN 2 k z fun a k=>?_
           have k:=k.keep [4] z
           refine nn (wp_ret (fS h k m z z))
         have h:=bif_f Ad h
         refine rB k 28 z Ad fun k=>pN 5 k z fun a k=>?_
         have k:=k.keep [4] z
         refine nn (wp_ret (fS h k m z z))
       have h:=bif_f Ab h
       refine rB k 23 z Ab fun k=>pN 10 k z fun a k=>?_
       have k:=k.keep [4] z
       refine nn (wp_ret (fS h k m z z))
     have h:=bif_f Ae h
     refine rB k 18 z Ae fun k=>pN 15 k z fun a k=>?_
     have k:=k.keep [4] z
     refine nn (wp_ret (fS h k m z z))
   have h:=bif_f Af h
   refine rB k 13 z Af fun k=>pN 20 k z fun a k=>?_
   have k:=k.keep [4] z
   refine nn (wp_ret (fS h k m z z))
 have h:=bif_f Ac h
 refine rB k 8 z Ac fun k=>pN 25 k z fun a k=>?_
 have k:=k.keep [4] z
 refine nn (wp_ret (fS h k m z z))
theorem c_spec_Within (fu:Nat) {w0:World} (p1:Pallet) (b2:Box) (Aa:Spot)  {r:Bool}
    (h:d_spec_Within fu p1 b2 Aa = some r) :
    Calls Tryz.prog 204 #[.agg (Flat.e (p1)).toArray,.agg (Flat.e (b2)).toArray,.agg (Flat.e (Aa)).toArray] w0 fun e w=>e = .returned (.bool (r)) ∧ Ext [] w0 w:=by
 refine enter (vs:=[_,_,_]) func204 z ntmps204 z fun a k=>?_
 have m:=St.start w0
 unfold d_spec_Within at h
 refine wr (s_box (cs:=[I p1.fW,I p1.fD,I p1.fH,I p1.fGram]) m k z z z z z z fun b4 w6 a k m e Aj=>s_box (cs:=[I b2.fW,I b2.fD,I b2.fH,I b2.fGram]) m k z z z z z z fun b7 w9 a k m e Ab=>s_box (cs:=[I Aa.fPallet,I Aa.fX,I Aa.fY,I Aa.fZ]) m k z z z z z z fun Ao Am a k m e Ai=>pN 1 k z fun a k=>nn (wr (sv k z (r_ldB ta140 m 1 Ab 0 k z z z z z z) fun a k=>sv k z (r_ldB ta139 m 0 Ai 0 k z z z z z z) fun a k=>oE h fun Ak Al h=>cE k m call259 z z z (c_spec_l12Known fu (b2:Box) (Aa:Spot)  Al) fun Ap e a k m=>pN 1 k z fun a k=>bsplit (Ak) (fun Ac=>?_) (fun Ac=>?_))))
 · have h:=bif_t Ac h
   refine rB k 10 z Ac fun k=>sv k z (r_fa fa140_0 k z z) fun a k=>sv k z (r_ldb t13 m 1 Ab 0 k z z z z z) fun a k=>pN 3 k z fun a k=>bsplit (decide (b2.fW > 0)) (fun Ad=>?_) (fun Ad=>?_)
   · have h:=bif_t Ad h
     refine rB k 15 z Ad fun k=>sv k z (r_fa fa140_1 k z z) fun a k=>sv k z (r_ldb t13 m 1 Ab 1 k z z z z z) fun a k=>pN 3 k z fun a k=>bsplit (decide (b2.fD > 0)) (fun Ah=>?_) (fun Ah=>?_)
     · have h:=bif_t Ah h
       refine rB k 20 z Ah fun k=>sv k z (r_fa fa140_2 k z z) fun a k=>sv k z (r_ldb t13 m 1 Ab 2 k z z z z z) fun a k=>pN 3 k z fun a k=>bsplit (decide (b2.fH > 0)) (fun Ag=>?_) (fun Ag=>?_)
       · have h:=bif_t Ag h
         refine rB k 25 z Ag fun k=>sv k z (r_fa fa139_1 k z z) fun a k=>sv k z (r_ldb t13 m 0 Ai 1 k z z z z z) fun a k=>sv k z (r_fa fa140_0 k z z) fun a k=>sv k z (r_ldb t13 m 1 Ab 0 k z z z z z) fun a k=>pN 1 k z fun a k=>sv k z (r_fa fa25_0 k z z) fun a k=>sv k z (r_ldb t13 m 2 Aj 0 k z z z z z) fun a k=>pN 3 k z fun a k=>bsplit (decide ((w64 (Aa.fX + b2.fW)) ≤ p1.fW)) (fun Af=>?_) (fun Af=>?_)
         · have h:=bif_t Af h
           refine rB k 35 z Af fun k=>sv k z (r_fa fa139_2 k z z) fun a k=>sv k z (r_ldb t13 m 0 Ai 2 k z z z z z) fun a k=>sv k z (r_fa fa140_1 k z z) fun a k=>sv k z (r_ldb t13 m 1 Ab 1 k z z z z z) fun a k=>pN 1 k z fun a k=>sv k z (r_fa fa25_1 k z z) fun a k=>sv k z (r_ldb t13 m 2 Aj 1 k z z z z z) fun a k=>pN 3 k z fun a k=>bsplit (decide ((w64 (Aa.fY + b2.fD)) ≤ p1.fD)) (fun Ae=>?_) (fun Ae=>?_)
           · have h:=bif_t Ae h
             refine rB k 45 z Ae fun k=>sv k z (r_fa fa139_3 k z z) fun a k=>sv k z (r_ldb t13 m 0 Ai 3 k z z z z z) fun a k=>sv k z (r_fa fa140_2 k z z) fun a k=>sv k z (r_ldb t13 m 1 Ab 2 k z z z z z) fun a k=>pN 1 k z fun a k=>sv k z (r_fa fa25_2 k z z) fun a k=>sv k z (r_ldb t13 m 2 Aj 2 k z z z z z) fun a k=>pN 3 k z fun a k=>?_
             have k:=k.keep [6] z
             refine nn (wp_ret (fS h k m z z))
           have h:=bif_f Ae h
           refine rB k 45 z Ae fun k=>pN 10 k z fun a k=>?_
           have k:=k.keep [6] z
           refine nn (wp_ret (fS h k m z z))
         have h:=bif_f Af h
         refine rB k 35 z Af fun k=>pN 20 k z fun a k=>?_
         have k:=k.keep [6] z
         refine nn (wp_ret (fS h k m z z))
       have h:=bif_f Ag h
       refine rB k 25 z Ag fun k=>pN 30 k z fun a k=>?_
       have k:=k.keep [6] z
       refine nn (wp_ret (fS h k m z z))
     have h:=bif_f Ah h
     refine rB k 20 z Ah fun k=>pN 35 k z fun a k=>?_
     have k:=k.keep [6] z
     refine nn (wp_ret (fS h k m z z))
   have h:=bif_f Ad h
   refine rB k 15 z Ad fun k=>pN 40 k z fun a k=>?_
   have k:=k.keep [6] z
   refine nn (wp_ret (fS h k m z z))
 have h:=bif_f Ac h
 refine rB k 10 z Ac fun k=>pN 45 k z fun a k=>?_
 have k:=k.keep [6] z
 refine nn (wp_ret (fS h k m z z))
theorem c_spec_l15Inside (fu:Nat) {w0:World} (r1:Request) (x5:Plan) {Ai:List Value} {F3:List Nat} (Bf:rd w0 F3 Ai r1) {Ag:List Value} {F7:List Nat} (Be:rd w0 F7 Ag x5) {r:Bool}
    (h:d_spec_l15Inside fu r1 x5 = some r) :
    Calls Tryz.prog 115 #[.agg Ai.toArray,.agg Ag.toArray] w0 fun e w=>e = .returned (.bool (r)) ∧ Ext [] w0 w:=by
 refine enter (vs:=[_,_]) func115 z ntmps115 z fun a k=>?_
 have m:=St.start w0
 obtain ⟨v9,Bt,Ah,Bm,Af,Br,rfl,rfl,Al,As,Aj⟩:=Bf
 obtain ⟨Ax,Bl,Au,Bv,rfl,rfl,Ab,Ae⟩:=Be
 unfold d_spec_l15Inside at h
 refine wr (s_box (cs:=[I r1.fWay,I r1.fPallet.fW,I r1.fPallet.fD,I r1.fPallet.fH,I r1.fPallet.fGram,I r1.fClasses,v9,Ah,I r1.fMaster,Af]) m k z z z z z z fun Aq Bg a k m e Ar=>s_box (cs:=[Ax,Au]) m k z z z z z z fun Ap At a k m e Ac=>pN 1 k z fun a k=>nn (wp_seq (wr (pN 1 k z fun a k=>nn (wp_block (c_loop (fun n a w=>∃ (Aa:Int),K 29 [(2,.pointer (some (⟨Aq,0,none⟩:Addr))),(3,.pointer (some (⟨Ap,0,none⟩:Addr))),(5,I Aa)] a ∧ St [] w0 w [([Aq],Bg),([Ap],At)] ∧ d_spec_l15Inside_L1 fu r1 x5 n Aa = some r) ?_ ?_ fu _ _ ?_))))))
 · rintro a w ⟨_,_,_,h⟩
   exact nS h
 · rintro Bk a Bp ⟨Aa,k,m,h⟩
   rw [d_spec_l15Inside_L1_s] at h
   unfold d_spec_l15Inside_L1_B at h
   refine wp_seq (wr (pN 1 k z fun a k=>sv k z (r_fa fa74_0 k z z) fun a k=>sv k z (r_ldb t143 m 1 Ac 0 k z z z z z) fun a k=>sv k z (r_len (α:=Carton) Ab k underlying43 z z) fun a k=>pN 1 k z fun a k=>nn (cI h k z (fun Ba h=>?_) fun Ba h=>?_)))
   · refine wp_skip (nm_then ?_)
     refine wp_seq (wp_block (wp_seq (d_go [] mixo m z fun Bh hMd=>?_)))
     have m:=hMd
     have s:=Ext.refl ([]:List Nat) Bh
     refine dN [5,11] 2 z k (by kernel_rfl) z s (fun _ _ _ _ _=>id) fun a k=>dt k 0 z (by kernel_rfl) z s (fun _ _ _=>id) (fun w s=>r_fa fa30_1 k z z) fun a k=>dt k 1 z (by kernel_rfl) z s (fun _ _ _=>id) (fun w s=>r_ldA ta25 (Ar.at ((hMd.step s).a 0 z) 1 4 z z z) z k z z) fun a k=>dt k 2 z (by kernel_rfl) z s (fun _ _ _=>id) (fun w s=>r_ldA ta30 (Ar.at ((hMd.step s).a 0 z) 0 10 z z z) z k z z) fun a k=>dt k 3 z (by kernel_rfl) z s (fun _ _ _=>id) (fun w s=>r_fa fa74_0 k z z) fun a k=>dt k 4 z (by kernel_rfl) z s (fun _ _ _=>id) (fun w s=>r_ld1 t143 (r:=[]) (Ac.at ((hMd.step s).a 1 z) 0 1 z z z) k z z) fun a k=>oE h fun Ad Am h=>?_
     refine dt k 6 z (by kernel_rfl) z s (fun _ _ _=>id) (fun w s=>r_ixa Ab Am k ts43 z z z) fun a k=>?_
     obtain ⟨Bo,Bn,Bs,Ay,Az,Aw⟩:=rd_get Ab (ix_some Am).2.2
     obtain ⟨Av,_,rfl,rfl,Ao⟩:=Ay
     refine dt k 7 z (by kernel_rfl) z s (fun _ _ _=>id) (fun w s=>r_ldA ta33 (Az.agr ((hMd.step s).a00 (Enc.rd_lt Ab)) Aw) z k z z) fun a k=>dt k 9 z (by kernel_rfl) z s (fun _ _ _=>id) (fun w s=>r_fa fa74_1 k z z) fun a k=>dt k 10 z (by kernel_rfl) z s (fun _ _ _=>id) (fun w s=>r_ld1 t172 (r:=[]) (Ac.at ((hMd.step s).a 1 z) 1 1 z z z) k z z) fun a k=>oE h fun Bb Ak h=>dt k 12 z (by kernel_rfl) z s (fun _ _ _=>id) (fun w s=>r_ixa Ae Ak k ts72 z z z) fun a k=>dt k 13 z (by kernel_rfl) z s (fun _ _ _=>id) (fun w s=>r_lde Ae ((hMd.step s).a00 (Enc.rd_lt Ae)) Ak ta139 k z z) fun a k=>d_one 8 (by kernel_rfl) z (oE h fun Bj Bc h=>?_)
     refine cE k m call133 z z z (c_spec_BoxOf fu _ _ (show rd _ _ [I r1.fWay,I r1.fPallet.fW,I r1.fPallet.fD,I r1.fPallet.fH,I r1.fPallet.fGram,I r1.fClasses,v9,Ah,I r1.fMaster,Af] (r1:Request) from ⟨_,_,_,_,_,_,z,z,(Enc.rd_agr Al (m.a00 (Enc.rd_lt Al))),(Enc.rd_agr As (m.a00 (Enc.rd_lt As))),(Enc.rd_agr Aj (m.a00 (Enc.rd_lt Aj)))⟩) (show rd _ _ [I Ad.fType,I Ad.fGroup,Av] (Ad:Carton) from ⟨_,_,z,z,(Enc.rd_agr Ao (m.a00 (Enc.rd_lt Ao)))⟩) Bc) fun Bq e a k m=>?_
     have s:=s.trans e (by simp)
     refine wpList_nil ⟨s,?_⟩
     refine d_one 14 (by kernel_rfl) z (oE h fun Bu Bd h=>cE k m call204 z z z (c_spec_Within fu (r1.fPallet:Pallet) (Bj:Box) (Bb:Spot)  Bd) fun Bw e a k m=>?_)
     have s:=s.trans e (by simp)
     refine wpList_nil ⟨s,?_⟩
     refine dN [15] 1 z k (by kernel_rfl) z s (fun _ _ _ _ _=>id) fun a k=>d_done (by kernel_rfl) ((nm_then ?_))
     refine cI h k z (fun Bi h=>?_) fun Bi h=>?_
     · refine wr (pN 1 k z fun a k=>nn (wp_ret (rt_block (rt_then (rt_then (rt_block (rt_then ?_)))))))
       refine fS h k m z z
     refine wp_skip (nm_block (nm_then ?_))
     refine wp_region_lit (pN 3 k z fun a k=>nn ?_)
     exact ⟨w64 (Aa + 1),k.keep [2,3,5] z,m.sel [0,1] z (by decide),h⟩
   refine wp_exit (ex_then (ex_then (ex_same (nm_then ?_))))
   refine wr (pN 1 k z fun a k=>nn (wp_ret (fS h k m z z)))
 exact ⟨0,k.keep [2,3,5] z,m.sel [1,0] z (by decide),h⟩
theorem c_spec_l12Cross (fu:Nat) {w0:World} (a1:Int) (Ac:Int) (b3:Int) (Ab:Int)  {r:Bool}
    (h:d_spec_l12Cross fu a1 Ac b3 Ab = some r) :
    Calls Tryz.prog 260 #[I a1,I Ac,I b3,I Ab] w0 fun e w=>e = .returned (.bool (r)) ∧ Ext [] w0 w:=by
 refine enter (vs:=[_,_,_,_]) func260 z ntmps260 z fun a k=>?_
 have m:=St.start w0
 unfold d_spec_l12Cross at h
 refine wr (pN 1 k z fun a k=>nn (wr (pN 6 k z fun a k=>bsplit (decide (a1 < (w64 (b3 + Ab)))) (fun Aa=>?_) (fun Aa=>?_))))
 · have h:=bif_t Aa h
   refine rB k 14 z Aa fun k=>pN 7 k z fun a k=>nn (wp_ret (fS h k m z z))
 have h:=bif_f Aa h
 refine rB k 14 z Aa fun k=>pN 7 k z fun a k=>nn (wp_ret (fS h k m z z))
theorem c_spec_Overlap (fu:Nat) {w0:World} (a1:Box) (Aa:Spot) (b3:Box) (t4:Spot)  {r:Bool}
    (h:d_spec_Overlap fu a1 Aa b3 t4 = some r) :
    Calls Tryz.prog 205 #[.agg (Flat.e (a1)).toArray,.agg (Flat.e (Aa)).toArray,.agg (Flat.e (b3)).toArray,.agg (Flat.e (t4)).toArray] w0 fun e w=>e = .returned (.bool (r)) ∧ Ext [] w0 w:=by
 refine enter (vs:=[_,_,_,_]) func205 z ntmps205 z fun a k=>?_
 have m:=St.start w0
 unfold d_spec_Overlap at h
 refine wr (s_box (cs:=[I a1.fW,I a1.fD,I a1.fH,I a1.fGram]) m k z z z z z z fun b5 w7 a k m e Aj=>s_box (cs:=[I Aa.fPallet,I Aa.fX,I Aa.fY,I Aa.fZ]) m k z z z z z z fun b8 Bd a k m e Ag=>s_box (cs:=[I b3.fW,I b3.fD,I b3.fH,I b3.fGram]) m k z z z z z z fun Be Av a k m e Ai=>s_box (cs:=[I t4.fPallet,I t4.fX,I t4.fY,I t4.fZ]) m k z z z z z z fun Ax Bb a k m e Ae=>pN 1 k z fun a k=>nn (wr (sv k z (r_ldB ta140 m 3 Aj 0 k z z z z z z) fun a k=>sv k z (r_ldB ta139 m 2 Ag 0 k z z z z z z) fun a k=>oE h fun Ao At h=>?_)))
 refine cE k m call259 z z z (c_spec_l12Known fu (a1:Box) (Aa:Spot)  At) fun Bc e a k m=>pN 1 k z fun a k=>bsplit (Ao) (fun Ac=>?_) (fun Ac=>?_)
 · have h:=bif_t Ac h
   refine rB k 12 z Ac fun k=>sv k z (r_ldB ta140 m 1 Ai 0 k z z z z z z) fun a k=>sv k z (r_ldB ta139 m 0 Ae 0 k z z z z z z) fun a k=>oE h fun Ar Am h=>cE k m call259 z z z (c_spec_l12Known fu (b3:Box) (t4:Spot)  Am) fun Ay e a k m=>pN 2 k z fun a k=>bsplit (Ar) (fun Ad=>?_) (fun Ad=>?_)
   · have h:=bif_t Ad h
     refine rB k 17 z Ad fun k=>sv k z (r_fa fa139_0 k z z) fun a k=>sv k z (r_ldb t13 m 2 Ag 0 k z z z z z) fun a k=>sv k z (r_fa fa139_0 k z z) fun a k=>sv k z (r_ldb t13 m 0 Ae 0 k z z z z z) fun a k=>pN 3 k z fun a k=>bsplit (Aa.fPallet == t4.fPallet) (fun Af=>?_) (fun Af=>?_)
     · have h:=bif_t Af h
       refine rB k 24 z Af fun k=>sv k z (r_fa fa139_1 k z z) fun a k=>sv k z (r_ldb t13 m 2 Ag 1 k z z z z z) fun a k=>sv k z (r_fa fa140_0 k z z) fun a k=>sv k z (r_ldb t13 m 3 Aj 0 k z z z z z) fun a k=>sv k z (r_fa fa139_1 k z z) fun a k=>sv k z (r_ldb t13 m 0 Ae 1 k z z z z z) fun a k=>sv k z (r_fa fa140_0 k z z) fun a k=>sv k z (r_ldb t13 m 1 Ai 0 k z z z z z) fun a k=>oE h fun Ak Al h=>cE k m call260 z z z (c_spec_l12Cross fu _ _ _ _  Al) fun Ba e a k m=>pN 2 k z fun a k=>bsplit (Ak) (fun Ah=>?_) (fun Ah=>?_)
       · have h:=bif_t Ah h
         refine rB k 35 z Ah fun k=>sv k z (r_fa fa139_2 k z z) fun a k=>sv k z (r_ldb t13 m 2 Ag 2 k z z z z z) fun a k=>sv k z (r_fa fa140_1 k z z) fun a k=>sv k z (r_ldb t13 m 3 Aj 1 k z z z z z) fun a k=>sv k z (r_fa fa139_2 k z z) fun a k=>sv k z (r_ldb t13 m 0 Ae 2 k z z z z z) fun a k=>sv k z (r_fa fa140_1 k z z) fun a k=>sv k z (r_ldb t13 m 1 Ai 1 k z z z z z) fun a k=>oE h fun As Aq h=>cE k m call260 z z z (c_spec_l12Cross fu _ _ _ _  Aq) fun Aw e a k m=>pN 2 k z fun a k=>bsplit (As) (fun Ab=>?_) (fun Ab=>?_)
         · have h:=bif_t Ab h
           refine rB k 46 z Ab fun k=>sv k z (r_fa fa139_3 k z z) fun a k=>sv k z (r_ldb t13 m 2 Ag 3 k z z z z z) fun a k=>sv k z (r_fa fa140_2 k z z) fun a k=>sv k z (r_ldb t13 m 3 Aj 2 k z z z z z) fun a k=>sv k z (r_fa fa139_3 k z z) fun a k=>sv k z (r_ldb t13 m 0 Ae 3 k z z z z z) fun a k=>sv k z (r_fa fa140_2 k z z) fun a k=>sv k z (r_ldb t13 m 1 Ai 2 k z z z z z) fun a k=>oE h fun Au Ap h=>cE k m call260 z z z (c_spec_l12Cross fu _ _ _ _  Ap) fun Az e a k m=>pN 2 k z fun a k=>?_
           have k:=k.keep [8] z
           refine nn (wp_ret (fS h k m z z))
         have h:=bif_f Ab h
         refine rB k 46 z Ab fun k=>pN 11 k z fun a k=>?_
         have k:=k.keep [8] z
         refine nn (wp_ret (fS h k m z z))
       have h:=bif_f Ah h
       refine rB k 35 z Ah fun k=>pN 22 k z fun a k=>?_
       have k:=k.keep [8] z
       refine nn (wp_ret (fS h k m z z))
     have h:=bif_f Af h
     refine rB k 24 z Af fun k=>pN 33 k z fun a k=>?_
     have k:=k.keep [8] z
     refine nn (wp_ret (fS h k m z z))
   have h:=bif_f Ad h
   refine rB k 17 z Ad fun k=>pN 40 k z fun a k=>?_
   have k:=k.keep [8] z
   refine nn (wp_ret (fS h k m z z))
 have h:=bif_f Ac h
 refine rB k 12 z Ac fun k=>pN 45 k z fun a k=>?_
 have k:=k.keep [8] z
 refine nn (wp_ret (fS h k m z z))
theorem c_spec_l15Apart (fu:Nat) {w0:World} (r1:Request) (x5:Plan) {As:List Value} {F3:List Nat} (Bt:rd w0 F3 As r1) {Ar:List Value} {F7:List Nat} (Bm:rd w0 F7 Ar x5) {r:Bool}
    (h:d_spec_l15Apart fu r1 x5 = some r) :
    Calls Tryz.prog 116 #[.agg As.toArray,.agg Ar.toArray] w0 fun e w=>e = .returned (.bool (r)) ∧ Ext [] w0 w:=by
 refine enter (vs:=[_,_]) func116 z ntmps116 z fun a k=>?_
 have m:=St.start w0
 obtain ⟨v9,Cf,Al,Ca,Ak,Cd,rfl,rfl,Af,Aj,Ae⟩:=Bt
 obtain ⟨Bc,By,Ba,Ch,rfl,rfl,Aa,Ab⟩:=Bm
 unfold d_spec_l15Apart at h
 refine wr (s_box (cs:=[I r1.fWay,I r1.fPallet.fW,I r1.fPallet.fD,I r1.fPallet.fH,I r1.fPallet.fGram,I r1.fClasses,v9,Al,I r1.fMaster,Ak]) m k z z z z z z fun Ai Az a k m e Av=>s_box (cs:=[Bc,Ba]) m k z z z z z z fun Ah Ap a k m e Ad=>pN 1 k z fun a k=>nn (wp_seq (wr (pN 1 k z fun a k=>nn (wp_block (c_loop (fun n a w=>∃ (Ac:Int),K 44 [(2,.pointer (some (⟨Ai,0,none⟩:Addr))),(3,.pointer (some (⟨Ah,0,none⟩:Addr))),(5,I Ac)] a ∧ St [] w0 w [([Ai],Az),([Ah],Ap)] ∧ d_spec_l15Apart_L2 fu r1 x5 n Ac = some r) ?_ ?_ fu _ _ ?_))))))
 · rintro a w ⟨_,_,_,h⟩
   exact nS h
 · rintro Bs a Cg ⟨Ac,k,m,h⟩
   rw [d_spec_l15Apart_L2_s] at h
   unfold d_spec_l15Apart_L2_B at h
   refine wp_seq (wr (pN 1 k z fun a k=>sv k z (r_fa fa74_0 k z z) fun a k=>sv k z (r_ldb t143 m 1 Ad 0 k z z z z z) fun a k=>sv k z (r_len (α:=Carton) Aa k underlying43 z z) fun a k=>pN 1 k z fun a k=>nn (cI h k z (fun Br h=>?_) fun Br h=>?_)))
   · refine wp_skip (nm_then ?_)
     refine wp_seq (wp_block (wr (pN 1 k z fun a k=>nn (wp_block (c_loop (fun n a w=>∃ (Ag:Int),K 44 [(2,.pointer (some (⟨Ai,0,none⟩:Addr))),(3,.pointer (some (⟨Ah,0,none⟩:Addr))),(5,I Ac),(6,I Ag)] a ∧ St [] w0 w [([Ai],Az),([Ah],Ap)] ∧ d_spec_l15Apart_L1 fu (d_spec_l15Apart_L2 fu r1 x5 Bs) r1 x5 Ac n Ag = some r) ?_ ?_ fu _ _ ?_)))))
     · rintro a w ⟨_,_,_,h⟩
       exact nS h
     · rintro Co a Ce ⟨Ag,k,m,h⟩
       rw [d_spec_l15Apart_L1_s] at h
       unfold d_spec_l15Apart_L1_B at h
       refine wp_seq (wr (pN 3 k z fun a k=>nn (cI h k z (fun Bd h=>?_) fun Bd h=>?_)))
       · refine wp_skip (nm_then ?_)
         refine wp_seq (wp_block (wp_seq (d_go [] mixo m z fun Bv hMd=>?_)))
         have m:=hMd
         have s:=Ext.refl ([]:List Nat) Bv
         refine dN [3,9,15,21] 4 z k (by kernel_rfl) z s (fun _ _ _ _ _=>id) fun a k=>dt k 0 z (by kernel_rfl) z s (fun _ _ _=>id) (fun w s=>r_ldA ta30 (Av.at ((hMd.step s).a 0 z) 0 10 z z z) z k z z) fun a k=>dt k 1 z (by kernel_rfl) z s (fun _ _ _=>id) (fun w s=>r_fa fa74_0 k z z) fun a k=>dt k 2 z (by kernel_rfl) z s (fun _ _ _=>id) (fun w s=>r_ld1 t143 (r:=[]) (Ad.at ((hMd.step s).a 1 z) 0 1 z z z) k z z) fun a k=>oE h fun Ao Ay h=>dt k 4 z (by kernel_rfl) z s (fun _ _ _=>id) (fun w s=>r_ixa Aa Ay k ts43 z z z) fun a k=>?_
         obtain ⟨Ck,Cn,Ci,Bq,Bg,Bl⟩:=rd_get Aa (ix_some Ay).2.2
         obtain ⟨Bj,_,rfl,rfl,Ax⟩:=Bq
         refine dt k 5 z (by kernel_rfl) z s (fun _ _ _=>id) (fun w s=>r_ldA ta33 (Bg.agr ((hMd.step s).a00 (Enc.rd_lt Aa)) Bl) z k z z) fun a k=>dt k 7 z (by kernel_rfl) z s (fun _ _ _=>id) (fun w s=>r_fa fa74_1 k z z) fun a k=>dt k 8 z (by kernel_rfl) z s (fun _ _ _=>id) (fun w s=>r_ld1 t172 (r:=[]) (Ad.at ((hMd.step s).a 1 z) 1 1 z z z) k z z) fun a k=>oE h fun Bh At h=>dt k 10 z (by kernel_rfl) z s (fun _ _ _=>id) (fun w s=>r_ixa Ab At k ts72 z z z) fun a k=>dt k 11 z (by kernel_rfl) z s (fun _ _ _=>id) (fun w s=>r_lde Ab ((hMd.step s).a00 (Enc.rd_lt Ab)) At ta139 k z z) fun a k=>dt k 12 z (by kernel_rfl) z s (fun _ _ _=>id) (fun w s=>r_ldA ta30 (Av.at ((hMd.step s).a 0 z) 0 10 z z z) z k z z) fun a k=>?_
         refine dt k 13 z (by kernel_rfl) z s (fun _ _ _=>id) (fun w s=>r_fa fa74_0 k z z) fun a k=>dt k 14 z (by kernel_rfl) z s (fun _ _ _=>id) (fun w s=>r_ld1 t143 (r:=[]) (Ad.at ((hMd.step s).a 1 z) 0 1 z z z) k z z) fun a k=>oE h fun Am Aw h=>dt k 16 z (by kernel_rfl) z s (fun _ _ _=>id) (fun w s=>r_ixa Aa Aw k ts43 z z z) fun a k=>?_
         obtain ⟨Cm,Cj,Bz,Be,Bw,Bi⟩:=rd_get Aa (ix_some Aw).2.2
         obtain ⟨Bn,_,rfl,rfl,Aq⟩:=Be
         refine dt k 17 z (by kernel_rfl) z s (fun _ _ _=>id) (fun w s=>r_ldA ta33 (Bw.agr ((hMd.step s).a00 (Enc.rd_lt Aa)) Bi) z k z z) fun a k=>dt k 19 z (by kernel_rfl) z s (fun _ _ _=>id) (fun w s=>r_fa fa74_1 k z z) fun a k=>dt k 20 z (by kernel_rfl) z s (fun _ _ _=>id) (fun w s=>r_ld1 t172 (r:=[]) (Ad.at ((hMd.step s).a 1 z) 1 1 z z z) k z z) fun a k=>oE h fun Bx Au h=>dt k 22 z (by kernel_rfl) z s (fun _ _ _=>id) (fun w s=>r_ixa Ab Au k ts72 z z z) fun a k=>dt k 23 z (by kernel_rfl) z s (fun _ _ _=>id) (fun w s=>r_lde Ab ((hMd.step s).a00 (Enc.rd_lt Ab)) Au ta139 k z z) fun a k=>d_one 6 (by kernel_rfl) z (oE h fun Bo Bb h=>?_)
         refine cE k m call133 z z z (c_spec_BoxOf fu _ _ (show rd _ _ [I r1.fWay,I r1.fPallet.fW,I r1.fPallet.fD,I r1.fPallet.fH,I r1.fPallet.fGram,I r1.fClasses,v9,Al,I r1.fMaster,Ak] (r1:Request) from ⟨_,_,_,_,_,_,z,z,(Enc.rd_agr Af (m.a00 (Enc.rd_lt Af))),(Enc.rd_agr Aj (m.a00 (Enc.rd_lt Aj))),(Enc.rd_agr Ae (m.a00 (Enc.rd_lt Ae)))⟩) (show rd _ _ [I Ao.fType,I Ao.fGroup,Bj] (Ao:Carton) from ⟨_,_,z,z,(Enc.rd_agr Ax (m.a00 (Enc.rd_lt Ax)))⟩) Bb) fun Cp e a k m=>?_
         have s:=s.trans e (by simp)
         refine wpList_nil ⟨s,?_⟩
         refine d_one 18 (by kernel_rfl) z (oE h fun Bu Bf h=>cE k m call133 z z z (c_spec_BoxOf fu _ _ (show rd _ _ [I r1.fWay,I r1.fPallet.fW,I r1.fPallet.fD,I r1.fPallet.fH,I r1.fPallet.fGram,I r1.fClasses,v9,Al,I r1.fMaster,Ak] (r1:Request) from ⟨_,_,_,_,_,_,z,z,(Enc.rd_agr Af (m.a00 (Enc.rd_lt Af))),(Enc.rd_agr Aj (m.a00 (Enc.rd_lt Aj))),(Enc.rd_agr Ae (m.a00 (Enc.rd_lt Ae)))⟩) (show rd _ _ [I Am.fType,I Am.fGroup,Bn] (Am:Carton) from ⟨_,_,z,z,(Enc.rd_agr Aq (m.a00 (Enc.rd_lt Aq)))⟩) Bf) fun Cc e a k m=>?_)
         have s:=s.trans e (by simp)
         refine wpList_nil ⟨s,?_⟩
         refine d_one 24 (by kernel_rfl) z (oE h fun Cb Bk h=>cE k m call205 z z z (c_spec_Overlap fu (Bo:Box) (Bh:Spot) (Bu:Box) (Bx:Spot)  Bk) fun Cl e a k m=>?_)
         have s:=s.trans e (by simp)
         refine wpList_nil ⟨s,?_⟩
         refine d_done (by kernel_rfl) ?_
         have k:=k.keep [2,3,5,6,43] z
         refine (nm_then ?_)
         refine cI h k z (fun Bp h=>?_) fun Bp h=>?_
         · refine wr (pN 1 k z fun a k=>nn (wp_ret (rt_block (rt_then (rt_then (rt_block (rt_block (rt_then (rt_then (rt_block (rt_then ?_)))))))))))
           refine fS h k m z z
         refine wp_skip (nm_block (nm_then ?_))
         refine wp_region_lit (pN 3 k z fun a k=>nn ?_)
         exact ⟨w64 (Ag + 1),k.keep [2,3,5,6] z,m.sel [0,1] z (by decide),h⟩
       refine wp_exit (ex_then (ex_then (ex_same (nm_block (nm_then ?_)))))
       refine wp_region_lit (pN 3 k z fun a k=>nn ?_)
       exact ⟨w64 (Ac + 1),k.keep [2,3,5] z,m.sel [0,1] z (by decide),h⟩
     exact ⟨0,k.keep [2,3,5,6] z,m.sel [0,1] z (by decide),h⟩
   refine wp_exit (ex_then (ex_then (ex_same (nm_then ?_))))
   refine wr (pN 1 k z fun a k=>nn (wp_ret (fS h k m z z)))
 exact ⟨0,k.keep [2,3,5] z,m.sel [1,0] z (by decide),h⟩
theorem c_spec_l1Max (fu:Nat) {w0:World} (a1:Int) (b2:Int)  {r:Int}
    (h:d_spec_l1Max fu a1 b2 = some r) :
    Calls Tryz.prog 227 #[I a1,I b2] w0 fun e w=>e = .returned (I r) ∧ Ext [] w0 w:=by
 refine enter (vs:=[_,_]) func227 z ntmps227 z fun a k=>?_
 have m:=St.start w0
 unfold d_spec_l1Max at h
 refine wr (pN 1 k z fun a k=>nn (wp_seq (wr (pN 3 k z fun a k=>nn (cI h k z (fun Aa h=>?_) fun Aa h=>?_)))))
 · refine wr (pN 2 k z fun a k=>nn (wp_ret (rt_then ?_)))
   refine fS h k m z z
 refine wp_skip (nm_then ?_)
 refine wr (pN 2 k z fun a k=>nn (wp_ret (fS h k m z z)))
theorem c_spec_Pallets (fu:Nat) {w0:World} (Af:List Spot) {v2:Value} {F3:List Nat} (Aa:rd w0 F3 [v2] Af) {r:Int}
    (h:d_spec_Pallets fu Af = some r) :
    Calls Tryz.prog 146 #[v2] w0 fun e w=>e = .returned (I r) ∧ Ext [] w0 w:=by
 refine enter (vs:=[_]) func146 z ntmps146 z fun a k=>?_
 have m:=St.start w0
 unfold d_spec_Pallets at h
 refine wr (pN 1 k z fun a k=>nn (wr (pN 1 k z fun a k=>nn (wp_seq (wr (pN 1 k z fun a k=>nn (wp_block (c_loop (fun n a w=>∃ (Ac:Int) (Ab:Int),K 26 [(0,v2),(3,I Ac),(4,I Ab)] a ∧ St [] w0 w [] ∧ d_spec_Pallets_L1 fu Af n Ac Ab = some r) ?_ ?_ fu _ _ ?_))))))))
 · rintro a w ⟨_,_,_,_,h⟩
   exact nS h
 · rintro Ah a At ⟨Ac,Ab,k,m,h⟩
   rw [d_spec_Pallets_L1_s] at h
   unfold d_spec_Pallets_L1_B at h
   refine wp_seq (wr (pN 2 k z fun a k=>sv k z (r_len (α:=Spot) Aa k underlying72 z z) fun a k=>pN 1 k z fun a k=>nn (cI h k z (fun Ag h=>?_) fun Ag h=>?_)))
   · refine wp_skip (nm_then ?_)
     refine c_cut (fun a w=>∃ (Ad:Int),K 26 [(0,v2),(3,I Ad),(4,I Ab)] a ∧ St [] w0 w [] ∧ d_spec_Pallets_J1 fu (d_spec_Pallets_L1 fu Af Ah) Ab Ad = some r) ?_ ?_
     · rintro a Au ⟨Ad,k,m,h⟩
       unfold d_spec_Pallets_J1 at h
       refine wp_region_lit (pN 3 k z fun a k=>nn ?_)
       exact ⟨Ad,w64 (Ab + 1),k.keep [0,3,4] z,m.sel [] z (by decide),h⟩
     refine wp_block (wr (pN 2 k z fun a k=>oE h fun Am Ae h=>sv k z (r_ixa Aa Ae k ts72 z z z) fun a k=>sv k z (r_fa fa139_0 k z z) fun a k=>sv k z (r_lde1 Aa (m.a00 (Enc.rd_lt Aa)) Ae 0 t13 k z z z z) fun a k=>oE h fun Ar Ak h=>cE k m call142 z z z (c_spec_l1In fu _ _ _  Ak) fun As e a k m=>nn (cI h k z (fun Aj h=>?_) fun Aj h=>?_)))
     · refine wp_region_lit (pN 3 k z fun a k=>oE h fun Aq Ao h=>sv k z (r_ixa Aa Ae k ts72 z z z) fun a k=>sv k z (r_fa fa139_0 k z z) fun a k=>sv k z (r_lde1 Aa (m.a00 (Enc.rd_lt Aa)) Ae 0 t13 k z z z z) fun a k=>pN 1 k z fun a k=>oE h fun Al Ai h=>cE k m call227 z z z (c_spec_l1Max fu _ _  Ai) fun Ap e a k m=>pN 1 k z fun a k=>wpList_nil (nm_block (nm_then ?_)))
       exact ⟨Al,k.keep [0,3,4] z,m.sel [] z (by decide),h⟩
     refine wp_skip (nm_block (nm_then ?_))
     exact ⟨Ac,k.keep [0,3,4] z,m.sel [] z (by decide),h⟩
   refine wp_exit (ex_then (ex_then (ex_same (nm_then ?_))))
   refine wr (pN 2 k z fun a k=>nn (wp_ret (fS h k m z z)))
 exact ⟨0,0,k.keep [0,3,4] z,m.sel [] z (by decide),h⟩
theorem c_spec_OnPallet (fu:Nat) {w0:World} (x1:Plan) (Ab:Int) {Au:List Value} {F3:List Nat} (Bh:rd w0 F3 Au x1) {r:(List Int)}
    (h:d_spec_OnPallet fu x1 Ab = some r) :
    Calls Tryz.prog 206 #[.agg Au.toArray,I Ab] w0 fun e w=>∃ (v0:Value) (G0:List Nat),e = .returned (v0) ∧ Ext [] w0 w ∧ ow w G0 [v0] r ∧ (∀ b ∈ G0,w0.heap.size ≤ b):=by
 refine enter (vs:=[_,_]) func206 z ntmps206 z fun a k=>?_
 have m:=St.start w0
 obtain ⟨v6,F7,v8,F9,rfl,rfl,As,Ai⟩:=Bh
 unfold d_spec_OnPallet at h
 refine wr (s_box (cs:=[v6,v8]) m k z z z z z z fun Ad Aq a k m e Aj=>pN 1 k z fun a k=>nn (wr (s_bs (cs:=[]) (ps:=[]) te31 m k z z z z z z z (by decide) z (by exact (List.forall_mem_nil _)) fun Ar Be Bs a k m e Bf=>?_)))
 have Ba:=ow_bx Bf ([]:List Int) z z z
 refine pN 1 k z fun a k=>nn (wp_seq (wr (pN 1 k z fun a k=>nn (wp_block (c_loop (fun n a w=>∃ (Af:List Int) (Ah:Value) (Ac:List Nat) (Ag:World) (Aa:Int),K 37 [(1,I Ab),(2,.pointer (some (⟨Ad,0,none⟩:Addr))),(5,Ah),(6,I Aa)] a ∧ St [] w0 w [([Ad],Aq),(Ac,Ag)] ∧ ow Ag Ac [Ah] Af ∧ d_spec_OnPallet_L1 fu x1 Ab n Af Aa = some r) ?_ ?_ fu _ _ ?_)))))
 · rintro a w ⟨_,_,_,_,_,_,_,_,h⟩
   exact nS h
 · rintro At a Bl ⟨Af,Ah,Ac,Ag,Aa,k,m,Am,h⟩
   rw [d_spec_OnPallet_L1_s] at h
   unfold d_spec_OnPallet_L1_B at h
   refine c_cut (fun a w=>K 37 [(1,I Ab),(2,.pointer (some (⟨Ad,0,none⟩:Addr))),(5,Ah),(6,I Aa)] a ∧ St [] w0 w [([Ad],Aq),(Ac,Ag)] ∧ d_spec_OnPallet_J2 fu (d_spec_OnPallet_L1 fu x1 Ab At) x1 Ab Af Aa = some r) ?_ ?_
   · rintro a Bo ⟨k,m,h⟩
     unfold d_spec_OnPallet_J2 at h
     refine c_cut (fun a w=>∃ (Ao:List Int) (Al:Value) (Ap:List Nat) (Ak:World),K 37 [(1,I Ab),(2,.pointer (some (⟨Ad,0,none⟩:Addr))),(5,Al),(6,I Aa)] a ∧ St [] w0 w [([Ad],Aq),(Ap,Ak)] ∧ ow Ak Ap [Al] Ao ∧ d_spec_OnPallet_J1 fu (d_spec_OnPallet_L1 fu x1 Ab At) Aa Ao = some r) ?_ ?_
     · rintro a Bn ⟨Ao,Al,Ap,Ak,k,m,Ax,h⟩
       unfold d_spec_OnPallet_J1 at h
       refine wp_region_lit (pN 3 k z fun a k=>nn ?_)
       exact ⟨Ao,Al,Ap,Ak,w64 (Aa + 1),k.keep [1,2,5,6] z,m.sel [0,1] z (by decide),Ax,h⟩
     refine wp_block (wr (sv k z (r_fa fa74_1 k z z) fun a k=>sv k z (r_ldb t172 m 0 Aj 1 k z z z z z) fun a k=>pN 1 k z fun a k=>oE h fun Bq Av h=>sv k z (r_ixa Ai Av k ts72 z z z) fun a k=>sv k z (r_fa fa139_0 k z z) fun a k=>sv k z (r_lde1 Ai (m.a00 (Enc.rd_lt Ai)) Av 0 t13 k z z z z) fun a k=>pN 2 k z fun a k=>nn (cI h k z (fun Ay h=>?_) fun Ay h=>?_)))
     · refine wp_region_lit (pN 2 k z fun a k=>s_bs (cs:=[I Aa]) (ps:=[(0,.tmp 33)]) te31 m k z z z z z z z (by decide) z (by exact (List.forall_mem_cons.2 ⟨z,(List.forall_mem_nil _)⟩)) fun Br Bm Bp a k m e Bi=>?_)
       have Bg:=ow_bx Bi ([Aa]:List Int) z z z
       refine oE h fun Aw Bc h=>s_appF Bc te31 z m 2 Am (News.rd (Enc.rd_agr (Enc.ow_rd Bg) (m.a 0 z))) z z k z z z z z z z fun Az Bk Bj a k e m Bb=>pN 1 k z fun a k=>wpList_nil (nm_block (nm_then ?_))
       exact ⟨Aw,Az,Bk,Bj,k.keep [1,2,5,6] z,m.sel [1,2] z (by decide),Bb,h⟩
     refine wp_skip (nm_block (nm_then ?_))
     exact ⟨Af,Ah,Ac,Ag,k.keep [1,2,5,6] z,m.sel [0,1] z (by decide),Am,h⟩
   refine wr (pN 1 k z fun a k=>sv k z (r_fa fa74_0 k z z) fun a k=>sv k z (r_ldb t143 m 0 Aj 0 k z z z z z) fun a k=>sv k z (r_len (α:=Carton) As k underlying43 z z) fun a k=>pN 2 k z fun a k=>bsplit (decide (Aa < ((x1.fCartons.length:Int)))) (fun Ae=>?_) (fun Ae=>?_))
   · have h:=bif_t Ae h
     refine rB k 13 z Ae fun k=>sv k z (r_fa fa74_0 k z z) fun a k=>sv k z (r_ldb t143 m 0 Aj 0 k z z z z z) fun a k=>sv k z (r_len (α:=Carton) As k underlying43 z z) fun a k=>sv k z (r_fa fa74_1 k z z) fun a k=>sv k z (r_ldb t172 m 0 Aj 1 k z z z z z) fun a k=>sv k z (r_len (α:=Spot) Ai k underlying72 z z) fun a k=>pN 2 k z fun a k=>nn (cI h k z (fun Bd h=>?_) fun Bd h=>?_)
     · refine wp_skip (nm_then ?_)
       exact ⟨k.keep [1,2,5,6] z,m.sel [0,1] z (by decide),h⟩
     refine wp_exit (ex_then (ex_then (ex_same (nm_then ?_))))
     refine wr (pN 2 k z fun a k=>nn (wp_ret ?_))
     cases h
     exact finR1 k z (RV.tmp k z) ⟨_,Ac,z,m.ext,(Enc.ow_agr Am (m.a 1 z)),(m.fresh 1 z)⟩
   have h:=bif_f Ae h
   refine rB k 13 z Ae fun k=>pN 8 k z fun a k=>nn (wp_cond_false (k.ev z) (wp_exit (ex_then (ex_then (ex_same (nm_then ?_))))))
   refine wr (pN 2 k z fun a k=>nn (wp_ret ?_))
   cases h
   exact finR1 k z (RV.tmp k z) ⟨_,Ac,z,m.ext,(Enc.ow_agr Am (m.a 1 z)),(m.fresh 1 z)⟩
 exact ⟨([]:List Int),(.slice (some ⟨Ar,0,none⟩) 0 0),[Ar],Be,0,k.keep [1,2,5,6] z,m.sel [1,0] z (by decide),Ba,h⟩
theorem c_spec_PalletGram (fu:Nat) {w0:World} (r1:Request) (x5:Plan) (Ap:Int) {Aj:List Value} {F3:List Nat} (Bo:rd w0 F3 Aj r1) {Ah:List Value} {F7:List Nat} (Bk:rd w0 F7 Ah x5) {r:Int}
    (h:d_spec_PalletGram fu r1 x5 Ap = some r) :
    Calls Tryz.prog 207 #[.agg Aj.toArray,.agg Ah.toArray,I Ap] w0 fun e w=>e = .returned (I r) ∧ Ext [] w0 w:=by
 refine enter (vs:=[_,_,_]) func207 z ntmps207 z fun a k=>?_
 have m:=St.start w0
 obtain ⟨Ar,Ca,Aw,Cb,Ag,Bu,rfl,rfl,Ax,Ak,Af⟩:=Bo
 obtain ⟨Ay,Br,Al,Bt,rfl,rfl,Aa,Aq⟩:=Bk
 unfold d_spec_PalletGram at h
 refine wr (s_box (cs:=[I r1.fWay,I r1.fPallet.fW,I r1.fPallet.fD,I r1.fPallet.fH,I r1.fPallet.fGram,I r1.fClasses,Ar,Aw,I r1.fMaster,Ag]) m k z z z z z z fun As Bi a k m e Bb=>s_box (cs:=[Ay,Al]) m k z z z z z z fun Av Bc a k m e Ai=>pN 1 k z fun a k=>nn (wr (pN 1 k z fun a k=>nn (wr (sv k z (r_ldB ta74 m 0 Ai 0 k z z z z z z) fun a k=>pN 1 k z fun a k=>oE h fun Bm Bn h=>s_call k call206 z z z z z (c_spec_OnPallet fu _ _ (show rd _ _ [Ay,Al] (x5:Plan) from ⟨_,_,_,_,z,z,(Enc.rd_agr Aa (m.a00 (Enc.rd_lt Aa))),(Enc.rd_agr Aq (m.a00 (Enc.rd_lt Aq)))⟩) Bn) fun Bz Ba hR=>?_)))))
 obtain ⟨Az,Am,rfl,e,Ab,Bf⟩:=hR
 refine ⟨_,z,fun a k=>?_⟩
 have m:=m.new e Am (fun b hb=>⟨Bf b hb,Enc.rd_lt (Enc.ow_rd Ab) b hb⟩) (Enc.ow_nd Ab)
 refine pN 1 k z fun a k=>nn (wp_seq (wr (pN 1 k z fun a k=>nn (wp_block (c_loop (fun n a w=>∃ (Ad:Int) (Ac:Int),K 32 [(3,.pointer (some (⟨As,0,none⟩:Addr))),(4,.pointer (some (⟨Av,0,none⟩:Addr))),(7,I Ad),(8,Az),(9,I Ac)] a ∧ St [] w0 w [([As],Bi),([Av],Bc),(Am,Ba)] ∧ d_spec_PalletGram_L1 fu r1 x5 Bm n Ad Ac = some r) ?_ ?_ fu _ _ ?_)))))
 · rintro a w ⟨_,_,_,_,h⟩
   exact nS h
 · rintro Bx a Cd ⟨Ad,Ac,k,m,h⟩
   rw [d_spec_PalletGram_L1_s] at h
   unfold d_spec_PalletGram_L1_B at h
   refine wp_seq (wr (pN 2 k z fun a k=>sv k z (r_len (α:=Int) (Enc.ow_rd Ab) k underlying31 z z) fun a k=>pN 1 k z fun a k=>nn (cI h k z (fun Bg h=>?_) fun Bg h=>?_)))
   · refine wp_skip (nm_then ?_)
     refine wp_seq (wp_block (d_go [] mixo m z fun Bq hMd=>?_))
     have m:=hMd
     have s:=Ext.refl ([]:List Nat) Bq
     refine dN [0,4,5] 3 z k (by kernel_rfl) z s (fun _ _ _ _ _=>id) fun a k=>dt k 1 z (by kernel_rfl) z s (fun _ _ _=>id) (fun w s=>r_ldA ta30 (Bb.at ((hMd.step s).a 0 z) 0 10 z z z) z k z z) fun a k=>dt k 2 z (by kernel_rfl) z s (fun _ _ _=>id) (fun w s=>r_fa fa74_0 k z z) fun a k=>dt k 3 z (by kernel_rfl) z s (fun _ _ _=>id) (fun w s=>r_ld1 t143 (r:=[]) (Ai.at ((hMd.step s).a 1 z) 0 1 z z z) k z z) fun a k=>oE h fun Bv Au h=>dt k 6 z (by kernel_rfl) z s (fun _ _ _=>id) (fun w s=>r_ixa (Enc.ow_rd Ab) Au k ts31 z z z) fun a k=>dt k 7 z (by kernel_rfl) z s (fun _ _ _=>id) (fun w s=>r_lde1 (Enc.ow_rd Ab) ((hMd.step s).a 2 z) Au 0 t13 k z z z z) fun a k=>oE h fun Ae At h=>?_
     refine dt k 8 z (by kernel_rfl) z s (fun _ _ _=>id) (fun w s=>r_ixa Aa At k ts43 z z z) fun a k=>?_
     obtain ⟨Bw,Cc,By,Bh,Bj,Bp⟩:=rd_get Aa (ix_some At).2.2
     obtain ⟨Bl,_,rfl,rfl,Ao⟩:=Bh
     refine dt k 9 z (by kernel_rfl) z s (fun _ _ _=>id) (fun w s=>r_ldA ta33 (Bj.agr ((hMd.step s).a00 (Enc.rd_lt Aa)) Bp) z k z z) fun a k=>d_one 10 (by kernel_rfl) z (oE h fun Be Bd h=>cE k m call224 z z z (c_spec_Gross fu _ _ (show rd _ _ [I r1.fWay,I r1.fPallet.fW,I r1.fPallet.fD,I r1.fPallet.fH,I r1.fPallet.fGram,I r1.fClasses,Ar,Aw,I r1.fMaster,Ag] (r1:Request) from ⟨_,_,_,_,_,_,z,z,(Enc.rd_agr Ax (m.a00 (Enc.rd_lt Ax))),(Enc.rd_agr Ak (m.a00 (Enc.rd_lt Ak))),(Enc.rd_agr Af (m.a00 (Enc.rd_lt Af)))⟩) (show rd _ _ [I Ae.fType,I Ae.fGroup,Bl] (Ae:Carton) from ⟨_,_,z,z,(Enc.rd_agr Ao (m.a00 (Enc.rd_lt Ao)))⟩) Bd) fun Bs e a k m=>?_)
     have s:=s.trans e (by simp)
     refine wpList_nil ⟨s,?_⟩
     refine dN [11,12] 2 z k (by kernel_rfl) z s (fun _ _ _ _ _=>id) fun a k=>d_done (by kernel_rfl) ((nm_block (nm_then ?_)))
     refine wp_region_lit (pN 3 k z fun a k=>nn ?_)
     exact ⟨w64 (Ad + Be),w64 (Ac + 1),k.keep [3,4,7,8,9] z,m.sel [0,1,2] z (by decide),h⟩
   refine wp_exit (ex_then (ex_then (ex_same (nm_then ?_))))
   refine wr (pN 2 k z fun a k=>nn (wp_ret (fS h k m z z)))
 exact ⟨0,0,k.keep [3,4,7,8,9] z,m.sel [2,1,0] z (by decide),h⟩
theorem c_spec_l15Pallets (fu:Nat) {w0:World} (r1:Request) (x5:Plan) {Be:List Value} {F3:List Nat} (Bu:rd w0 F3 Be r1) {Az:List Value} {F7:List Nat} (Bx:rd w0 F7 Az x5) {r:Bool}
    (h:d_spec_l15Pallets fu r1 x5 = some r) :
    Calls Tryz.prog 117 #[.agg Be.toArray,.agg Az.toArray] w0 fun e w=>e = .returned (.bool (r)) ∧ Ext [] w0 w:=by
 refine enter (vs:=[_,_]) func117 z ntmps117 z fun a k=>?_
 have m:=St.start w0
 obtain ⟨v9,Cc,Ax,Ct,As,Cu,rfl,rfl,Ay,Bc,Ba⟩:=Bu
 obtain ⟨Ap,By,Am,Ce,rfl,rfl,Aa,Ag⟩:=Bx
 unfold d_spec_l15Pallets at h
 refine wr (s_box (cs:=[I r1.fWay,I r1.fPallet.fW,I r1.fPallet.fD,I r1.fPallet.fH,I r1.fPallet.fGram,I r1.fClasses,v9,Ax,I r1.fMaster,As]) m k z z z z z z fun Ae Al a k m e Bb=>s_box (cs:=[Ap,Am]) m k z z z z z z fun Ac Ak a k m e Ai=>pN 1 k z fun a k=>nn (wr (sv k z (r_fa fa74_1 k z z) fun a k=>sv k z (r_ldb t172 m 0 Ai 1 k z z z z z) fun a k=>oE h fun Af Bs h=>cE k m call146 z z z (c_spec_Pallets fu _ (Enc.rd_agr Ag (m.a00 (Enc.rd_lt Ag))) Bs) fun Cg e a k m=>pN 1 k z fun a k=>nn (wp_seq (wr (pN 1 k z fun a k=>nn (wp_block ?_)))))))
 refine c_loop (fun n a w=>∃ (Ab:Int),K 57 [(2,.pointer (some (⟨Ae,0,none⟩:Addr))),(3,.pointer (some (⟨Ac,0,none⟩:Addr))),(5,I Af),(6,I Ab)] a ∧ St [] w0 w [([Ae],Al),([Ac],Ak)] ∧ d_spec_l15Pallets_L2 fu r1 x5 Af n Ab = some r) ?_ ?_ fu _ _ ?_
 · rintro a w ⟨_,_,_,h⟩
   exact nS h
 · rintro Aq a Cn ⟨Ab,k,m,h⟩
   rw [d_spec_l15Pallets_L2_s] at h
   unfold d_spec_l15Pallets_L2_B at h
   refine wp_seq (wr (pN 3 k z fun a k=>nn (cI h k z (fun Bi h=>?_) fun Bi h=>?_)))
   · refine wp_skip (nm_then ?_)
     refine c_cut (fun a w=>K 57 [(2,.pointer (some (⟨Ae,0,none⟩:Addr))),(3,.pointer (some (⟨Ac,0,none⟩:Addr))),(5,I Af),(6,I Ab)] a ∧ St [] w0 w [([Ae],Al),([Ac],Ak)] ∧ d_spec_l15Pallets_J1 fu (d_spec_l15Pallets_L2 fu r1 x5 Af Aq) Ab = some r) ?_ ?_
     · rintro a Cm ⟨k,m,h⟩
       unfold d_spec_l15Pallets_J1 at h
       refine wp_region_lit (pN 3 k z fun a k=>nn ?_)
       exact ⟨w64 (Ab + 1),k.keep [2,3,5,6] z,m.sel [0,1] z (by decide),h⟩
     refine wp_block (wr (sv k z (r_ldB ta74 m 1 Ai 0 k z z z z z z) fun a k=>pN 1 k z fun a k=>oE h fun Ar Bm h=>s_call k call206 z z z z z (c_spec_OnPallet fu _ _ (show rd _ _ [Ap,Am] (x5:Plan) from ⟨_,_,_,_,z,z,(Enc.rd_agr Aa (m.a00 (Enc.rd_lt Aa))),(Enc.rd_agr Ag (m.a00 (Enc.rd_lt Ag)))⟩) Bm) fun Co At hR=>?_))
     obtain ⟨Bf,Ao,rfl,e,Ad,Bq⟩:=hR
     refine ⟨_,z,fun a k=>?_⟩
     have m:=m.new e Ao (fun b hb=>⟨Bq b hb,Enc.rd_lt (Enc.ow_rd Ad) b hb⟩) (Enc.ow_nd Ad)
     refine pN 1 k z fun a k=>nn (c_cut (fun a w=>K 57 [(2,.pointer (some (⟨Ae,0,none⟩:Addr))),(3,.pointer (some (⟨Ac,0,none⟩:Addr))),(5,I Af),(6,I Ab),(7,Bf)] a ∧ St [] w0 w [([Ae],Al),([Ac],Ak),(Ao,At)] ∧ d_spec_l15Pallets_J2 fu (d_spec_l15Pallets_L2 fu r1 x5 Af Aq) x5 Ab Ar = some r) ?_ ?_)
     · rintro a Cd ⟨k,m,h⟩
       unfold d_spec_l15Pallets_J2 at h
       refine wr (pN 1 k z fun a k=>nn (wp_block (c_loop (fun n a w=>∃ (Aj:Int),K 57 [(2,.pointer (some (⟨Ae,0,none⟩:Addr))),(3,.pointer (some (⟨Ac,0,none⟩:Addr))),(5,I Af),(6,I Ab),(7,Bf),(8,I Aj)] a ∧ St [] w0 w [([Ae],Al),([Ac],Ak),(Ao,At)] ∧ d_spec_l15Pallets_L1 fu (d_spec_l15Pallets_L2 fu r1 x5 Af Aq) x5 Ab Ar n Aj = some r) ?_ ?_ fu _ _ ?_)))
       · rintro a w ⟨_,_,_,h⟩
         exact nS h
       · rintro Cs a Ca ⟨Aj,k,m,h⟩
         rw [d_spec_l15Pallets_L1_s] at h
         unfold d_spec_l15Pallets_L1_B at h
         refine wp_seq (wr (pN 2 k z fun a k=>sv k z (r_len (α:=Int) (Enc.ow_rd Ad) k underlying31 z z) fun a k=>pN 1 k z fun a k=>nn (cI h k z (fun Bv h=>?_) fun Bv h=>?_)))
         · refine wp_skip (nm_then ?_)
           refine wp_seq (wp_block (wp_seq (d_go [] mixo m z fun Bk hMd=>?_)))
           have m:=hMd
           have s:=Ext.refl ([]:List Nat) Bk
           refine dN [2,3,11] 3 z k (by kernel_rfl) z s (fun _ _ _ _ _=>id) fun a k=>dt k 0 z (by kernel_rfl) z s (fun _ _ _=>id) (fun w s=>r_fa fa74_0 k z z) fun a k=>dt k 1 z (by kernel_rfl) z s (fun _ _ _=>id) (fun w s=>r_ld1 t143 (r:=[]) (Ai.at ((hMd.step s).a 1 z) 0 1 z z z) k z z) fun a k=>oE h fun Ci Av h=>dt k 4 z (by kernel_rfl) z s (fun _ _ _=>id) (fun w s=>r_ixa (Enc.ow_rd Ad) Av k ts31 z z z) fun a k=>dt k 5 z (by kernel_rfl) z s (fun _ _ _=>id) (fun w s=>r_lde1 (Enc.ow_rd Ad) ((hMd.step s).a 2 z) Av 0 t13 k z z z z) fun a k=>oE h fun Ck Bd h=>dt k 6 z (by kernel_rfl) z s (fun _ _ _=>id) (fun w s=>r_ixa Aa Bd k ts43 z z z) fun a k=>?_
           refine dt k 7 z (by kernel_rfl) z s (fun _ _ _=>id) (fun w s=>r_fa fa33_1 k z z) fun a k=>?_
           obtain ⟨Ch,Cz,Cy,Bw,Br,Bp⟩:=rd_get Aa (ix_some Bd).2.2
           obtain ⟨Cv,_,rfl,rfl,Cb⟩:=Bw
           refine dt k 8 z (by kernel_rfl) z s (fun _ _ _=>id) (fun w s=>r_ld1 t13 ((Br.agr ((hMd.step s).a00 (Enc.rd_lt Aa)) Bp).fld 1 1 (Nat.le_of_ble_eq_true z)) k z z) fun a k=>dt k 9 z (by kernel_rfl) z s (fun _ _ _=>id) (fun w s=>r_fa fa74_0 k z z) fun a k=>dt k 10 z (by kernel_rfl) z s (fun _ _ _=>id) (fun w s=>r_ld1 t143 (r:=[]) (Ai.at ((hMd.step s).a 1 z) 0 1 z z z) k z z) fun a k=>oE h fun Cl Au h=>dt k 12 z (by kernel_rfl) z s (fun _ _ _=>id) (fun w s=>r_ixa (Enc.ow_rd Ad) Au k ts31 z z z) fun a k=>dt k 13 z (by kernel_rfl) z s (fun _ _ _=>id) (fun w s=>r_lde1 (Enc.ow_rd Ad) ((hMd.step s).a 2 z) Au 0 t13 k z z z z) fun a k=>oE h fun Cr Aw h=>?_
           refine dt k 14 z (by kernel_rfl) z s (fun _ _ _=>id) (fun w s=>r_ixa Aa Aw k ts43 z z z) fun a k=>dt k 15 z (by kernel_rfl) z s (fun _ _ _=>id) (fun w s=>r_fa fa33_1 k z z) fun a k=>?_
           obtain ⟨Cp,Cq,Bz,Bt,Bl,Bj⟩:=rd_get Aa (ix_some Aw).2.2
           obtain ⟨Cf,_,rfl,rfl,Cw⟩:=Bt
           refine dt k 16 z (by kernel_rfl) z s (fun _ _ _=>id) (fun w s=>r_ld1 t13 ((Bl.agr ((hMd.step s).a00 (Enc.rd_lt Aa)) Bj).fld 1 1 (Nat.le_of_ble_eq_true z)) k z z) fun a k=>dN [17] 1 z k (by kernel_rfl) z s (fun _ _ _ _ _=>id) fun a k=>d_done (by kernel_rfl) ((nm_then ?_))
           refine cI h k z (fun Bh h=>?_) fun Bh h=>?_
           · refine wr (pN 1 k z fun a k=>nn (wp_ret (rt_block (rt_then (rt_then (rt_block (rt_block (rt_then (rt_then (rt_block (rt_then ?_)))))))))))
             refine fS h k m z z
           refine wp_skip (nm_block (nm_then ?_))
           refine wp_region_lit (pN 3 k z fun a k=>?_)
           have k:=k.keep [2,3,5,6,7,8] z
           refine nn ?_
           exact ⟨w64 (Aj + 1),k.keep [2,3,5,6,7,8] z,m.sel [0,1,2] z (by decide),h⟩
         refine wp_exit (ex_then (ex_then (ex_same (nm_block (nm_then ?_)))))
         exact ⟨k.keep [2,3,5,6] z,m.sel [0,1] z (by decide),h⟩
       exact ⟨1,k.keep [2,3,5,6,7,8] z,m.sel [0,1,2] z (by decide),h⟩
     refine wp_seq (d_go [] mixo m z fun Bn hMd=>?_)
     have m:=hMd
     have s:=Ext.refl ([]:List Nat) Bn
     refine dN [0] 1 z k (by kernel_rfl) z s (fun _ _ _ _ _=>id) fun a k=>dt k 1 z (by kernel_rfl) z s (fun _ _ _=>id) (fun w s=>r_len (α:=Int) (Enc.ow_rd Ad) k underlying31 z z) fun a k=>dN [2,3] 2 z k (by kernel_rfl) z s (fun _ _ _ _ _=>id) fun a k=>bsplit (((Ar.length:Int)) == 0) (fun Ah=>?_) (fun Ah=>?_)
     · have h:=bif_t Ah h
       refine rB k 23 z Ah fun k=>dN [4,5,6,7,8,9,10,11,12] 9 z k (by kernel_rfl) z s (fun _ _ _ _ _=>id) fun a k=>d_done (by kernel_rfl) ((nm_then ?_))
       refine wp_cond_true (k.ev z) (wr (pN 1 k z fun a k=>nn (wp_ret (rt_then (rt_block (rt_then (rt_then (rt_block (rt_then ?_)))))))))
       refine fS h k m z z
     have h:=bif_f Ah h
     refine rB k 23 z Ah fun k=>dN [6] 1 z k (by kernel_rfl) z s (fun _ _ _ _ _=>id) fun a k=>dt k 4 z (by kernel_rfl) z s (fun _ _ _=>id) (fun w s=>r_ldA ta30 (Bb.at ((hMd.step s).a 1 z) 0 10 z z z) z k z z) fun a k=>dt k 5 z (by kernel_rfl) z s (fun _ _ _=>id) (fun w s=>r_ldA ta74 (Ai.at ((hMd.step s).a 2 z) 0 2 z z z) z k z z) fun a k=>dt k 8 z (by kernel_rfl) z s (fun _ _ _=>id) (fun w s=>r_fa fa30_1 k z z) fun a k=>dt k 9 z (by kernel_rfl) z s (fun _ _ _=>id) (fun w s=>r_fa fa25_3 k z z) fun a k=>dt k 10 z (by kernel_rfl) z s (fun _ _ _=>id) (fun w s=>r_ld1 t13 (r:=[]) (Bb.at ((hMd.step s).a 1 z) 4 1 z z z) k z z) fun a k=>d_one 7 (by kernel_rfl) z (oE h fun Cj Bo h=>?_)
     refine cE k m call207 z z z (c_spec_PalletGram fu _ _ _ (show rd _ _ [I r1.fWay,I r1.fPallet.fW,I r1.fPallet.fD,I r1.fPallet.fH,I r1.fPallet.fGram,I r1.fClasses,v9,Ax,I r1.fMaster,As] (r1:Request) from ⟨_,_,_,_,_,_,z,z,(Enc.rd_agr Ay (m.a00 (Enc.rd_lt Ay))),(Enc.rd_agr Bc (m.a00 (Enc.rd_lt Bc))),(Enc.rd_agr Ba (m.a00 (Enc.rd_lt Ba)))⟩) (show rd _ _ [Ap,Am] (x5:Plan) from ⟨_,_,_,_,z,z,(Enc.rd_agr Aa (m.a00 (Enc.rd_lt Aa))),(Enc.rd_agr Ag (m.a00 (Enc.rd_lt Ag)))⟩) Bo) fun Cx e a k m=>?_
     have s:=s.trans e (by simp)
     refine wpList_nil ⟨s,?_⟩
     refine dN [11,12] 2 z k (by kernel_rfl) z s (fun _ _ _ _ _=>id) fun a k=>d_done (by kernel_rfl) ((nm_then ?_))
     refine cI h k z (fun Bg h=>?_) fun Bg h=>?_
     · refine wr (pN 1 k z fun a k=>nn (wp_ret (rt_then (rt_block (rt_then (rt_then (rt_block (rt_then ?_))))))))
       refine fS h k m z z
     refine wp_skip (nm_then ?_)
     exact ⟨k.keep [2,3,5,6,7] z,m.sel [1,2,0] z (by decide),h⟩
   refine wp_exit (ex_then (ex_then (ex_same (nm_then ?_))))
   refine wr (pN 1 k z fun a k=>nn (wp_ret (fS h k m z z)))
 exact ⟨0,k.keep [2,3,5,6] z,m.sel [1,0] z (by decide),h⟩
theorem c_spec_Check (fu:Nat) {w0:World} (r1:Request) (x5:Plan) {Ap:List Value} {F3:List Nat} (Bm:rd w0 F3 Ap r1) {Ao:List Value} {F7:List Nat} (Bk:rd w0 F7 Ao x5) {r:Int}
    (h:d_spec_Check fu r1 x5 = some r) :
    Calls Tryz.prog 39 #[.agg Ap.toArray,.agg Ao.toArray] w0 fun e w=>e = .returned (I r) ∧ Ext [] w0 w:=by
 refine enter (vs:=[_,_]) func39 z ntmps39 z fun a k=>?_
 have m:=St.start w0
 obtain ⟨v9,Ci,Aj,By,Ai,Cf,rfl,rfl,Ad,Ae,Ac⟩:=Bm
 obtain ⟨Ag,Bv,Af,Cj,rfl,rfl,Aa,Ab⟩:=Bk
 unfold d_spec_Check at h
 refine wr (s_box (cs:=[I r1.fWay,I r1.fPallet.fW,I r1.fPallet.fD,I r1.fPallet.fH,I r1.fPallet.fGram,I r1.fClasses,v9,Aj,I r1.fMaster,Ai]) m k z z z z z z fun Ar Bp a k m e Ak=>s_box (cs:=[Ag,Af]) m k z z z z z z fun Aq At a k m e Ah=>pN 1 k z fun a k=>nn (wp_seq (wr (sv k z (r_ldB ta30 m 1 Ak 0 k z z z z z z) fun a k=>oE h fun Cb Bb h=>?_))))
 refine cE k m call19 z z z (c_spec_Class fu _ (show rd _ _ [I r1.fWay,I r1.fPallet.fW,I r1.fPallet.fD,I r1.fPallet.fH,I r1.fPallet.fGram,I r1.fClasses,v9,Aj,I r1.fMaster,Ai] (r1:Request) from ⟨_,_,_,_,_,_,z,z,(Enc.rd_agr Ad (m.a00 (Enc.rd_lt Ad))),(Enc.rd_agr Ae (m.a00 (Enc.rd_lt Ae))),(Enc.rd_agr Ac (m.a00 (Enc.rd_lt Ac)))⟩) Bb) fun Cm e a k m=>pN 1 k z fun a k=>nn (cI h k z (fun Bf h=>?_) fun Bf h=>?_)
 · refine wr (pN 1 k z fun a k=>nn (wp_ret (rt_then ?_)))
   refine fS h k m z z
 refine wp_skip (nm_then ?_)
 refine c_cut (fun a w=>K 54 [(2,.pointer (some (⟨Ar,0,none⟩:Addr))),(3,.pointer (some (⟨Aq,0,none⟩:Addr)))] a ∧ St [] w0 w [([Ar],Bp),([Aq],At)] ∧ d_spec_Check_J1 fu r1 x5 = some r) ?_ ?_
 · rintro a Ca ⟨k,m,h⟩
   unfold d_spec_Check_J1 at h
   refine wr (sv k z (r_ldB ta30 m 0 Ak 0 k z z z z z z) fun a k=>oE h fun Cs Bi h=>s_call k call86 z z z z z (c_spec_l6Units fu _ (show rd _ _ [I r1.fWay,I r1.fPallet.fW,I r1.fPallet.fD,I r1.fPallet.fH,I r1.fPallet.fGram,I r1.fClasses,v9,Aj,I r1.fMaster,Ai] (r1:Request) from ⟨_,_,_,_,_,_,z,z,(Enc.rd_agr Ad (m.a00 (Enc.rd_lt Ad))),(Enc.rd_agr Ae (m.a00 (Enc.rd_lt Ae))),(Enc.rd_agr Ac (m.a00 (Enc.rd_lt Ac)))⟩) Bi) fun Bu Cq hR=>?_)
   obtain ⟨Cv,Bj,rfl,e,Am,Ay⟩:=hR
   refine ⟨_,z,fun a k=>?_⟩
   have m:=m.new e Bj (fun b hb=>⟨Ay b hb,Enc.rd_lt (Enc.ow_rd Am) b hb⟩) (Enc.ow_nd Am)
   refine pN 1 k z fun a k=>nn (wp_seq (wp_block (wr (pN 1 k z fun a k=>sv k z (r_ldB ta74 m 2 Ah 0 k z z z z z z) fun a k=>oE h fun Cu Ax h=>cE k m call111 z z z (c_spec_l15Units fu _ _ (Enc.rd_agr (Enc.ow_rd Am) (m.a 0 z)) (show rd _ _ [Ag,Af] (x5:Plan) from ⟨_,_,_,_,z,z,(Enc.rd_agr Aa (m.a00 (Enc.rd_lt Aa))),(Enc.rd_agr Ab (m.a00 (Enc.rd_lt Ab)))⟩) Ax) fun Cn e a k m=>pN 2 k z fun a k=>nn (cI h k z (fun Be h=>?_) fun Be h=>?_)))))
   · refine wr (pN 1 k z fun a k=>nn (wp_ret (rt_block (rt_then ?_))))
     refine fS h k m z z
   refine wr (sv k z (r_ldB ta30 m 1 Ak 0 k z z z z z z) fun a k=>sv k z (r_ldB ta74 m 2 Ah 0 k z z z z z z) fun a k=>oE h fun Bt Bs h=>cE k m call112 z z z (c_spec_l15Holds fu _ _ (show rd _ _ [I r1.fWay,I r1.fPallet.fW,I r1.fPallet.fD,I r1.fPallet.fH,I r1.fPallet.fGram,I r1.fClasses,v9,Aj,I r1.fMaster,Ai] (r1:Request) from ⟨_,_,_,_,_,_,z,z,(Enc.rd_agr Ad (m.a00 (Enc.rd_lt Ad))),(Enc.rd_agr Ae (m.a00 (Enc.rd_lt Ae))),(Enc.rd_agr Ac (m.a00 (Enc.rd_lt Ac)))⟩) (show rd _ _ [Ag,Af] (x5:Plan) from ⟨_,_,_,_,z,z,(Enc.rd_agr Aa (m.a00 (Enc.rd_lt Aa))),(Enc.rd_agr Ab (m.a00 (Enc.rd_lt Ab)))⟩) Bs) fun Cg e a k m=>pN 2 k z fun a k=>nn (cI h k z (fun Au h=>?_) fun Au h=>?_))
   · refine wr (pN 1 k z fun a k=>nn (wp_ret (rt_block (rt_then ?_))))
     refine fS h k m z z
   refine wr (sv k z (r_ldB ta30 m 1 Ak 0 k z z z z z z) fun a k=>pN 1 k z fun a k=>sv k z (r_ldB ta74 m 2 Ah 0 k z z z z z z) fun a k=>oE h fun Ck Ba h=>cE k m call113 z z z (c_spec_l15Group fu _ _ _ (show rd _ _ [I r1.fWay,I r1.fPallet.fW,I r1.fPallet.fD,I r1.fPallet.fH,I r1.fPallet.fGram,I r1.fClasses,v9,Aj,I r1.fMaster,Ai] (r1:Request) from ⟨_,_,_,_,_,_,z,z,(Enc.rd_agr Ad (m.a00 (Enc.rd_lt Ad))),(Enc.rd_agr Ae (m.a00 (Enc.rd_lt Ae))),(Enc.rd_agr Ac (m.a00 (Enc.rd_lt Ac)))⟩) (Enc.rd_agr (Enc.ow_rd Am) (m.a 0 z)) (show rd _ _ [Ag,Af] (x5:Plan) from ⟨_,_,_,_,z,z,(Enc.rd_agr Aa (m.a00 (Enc.rd_lt Aa))),(Enc.rd_agr Ab (m.a00 (Enc.rd_lt Ab)))⟩) Ba) fun Ch e a k m=>?_)
   refine pN 2 k z fun a k=>nn (cI h k z (fun Av h=>?_) fun Av h=>?_)
   · refine wr (pN 1 k z fun a k=>nn (wp_ret (rt_block (rt_then ?_))))
     refine fS h k m z z
   refine wr (sv k z (r_ldB ta30 m 1 Ak 0 k z z z z z z) fun a k=>sv k z (r_ldB ta74 m 2 Ah 0 k z z z z z z) fun a k=>oE h fun Ce Br h=>cE k m call114 z z z (c_spec_l15Cheap fu _ _ (show rd _ _ [I r1.fWay,I r1.fPallet.fW,I r1.fPallet.fD,I r1.fPallet.fH,I r1.fPallet.fGram,I r1.fClasses,v9,Aj,I r1.fMaster,Ai] (r1:Request) from ⟨_,_,_,_,_,_,z,z,(Enc.rd_agr Ad (m.a00 (Enc.rd_lt Ad))),(Enc.rd_agr Ae (m.a00 (Enc.rd_lt Ae))),(Enc.rd_agr Ac (m.a00 (Enc.rd_lt Ac)))⟩) (show rd _ _ [Ag,Af] (x5:Plan) from ⟨_,_,_,_,z,z,(Enc.rd_agr Aa (m.a00 (Enc.rd_lt Aa))),(Enc.rd_agr Ab (m.a00 (Enc.rd_lt Ab)))⟩) Br) fun Cc e a k m=>pN 2 k z fun a k=>nn (cI h k z (fun Az h=>?_) fun Az h=>?_))
   · refine wr (pN 1 k z fun a k=>?_)
     have k:=k.keep [4] z
     refine nn (wp_ret (rt_block (rt_then ?_)))
     refine fS h k m z z
   refine wr (sv k z (r_ldB ta30 m 1 Ak 0 k z z z z z z) fun a k=>sv k z (r_ldB ta74 m 2 Ah 0 k z z z z z z) fun a k=>oE h fun Cl Bo h=>cE k m call115 z z z (c_spec_l15Inside fu _ _ (show rd _ _ [I r1.fWay,I r1.fPallet.fW,I r1.fPallet.fD,I r1.fPallet.fH,I r1.fPallet.fGram,I r1.fClasses,v9,Aj,I r1.fMaster,Ai] (r1:Request) from ⟨_,_,_,_,_,_,z,z,(Enc.rd_agr Ad (m.a00 (Enc.rd_lt Ad))),(Enc.rd_agr Ae (m.a00 (Enc.rd_lt Ae))),(Enc.rd_agr Ac (m.a00 (Enc.rd_lt Ac)))⟩) (show rd _ _ [Ag,Af] (x5:Plan) from ⟨_,_,_,_,z,z,(Enc.rd_agr Aa (m.a00 (Enc.rd_lt Aa))),(Enc.rd_agr Ab (m.a00 (Enc.rd_lt Ab)))⟩) Bo) fun Bz e a k m=>pN 2 k z fun a k=>?_)
   have k:=k.keep [2,3,39] z
   refine nn (cI h k z (fun Bc h=>?_) fun Bc h=>?_)
   · refine wr (pN 1 k z fun a k=>nn (wp_ret (rt_block (rt_then ?_))))
     refine fS h k m z z
   refine wr (sv k z (r_ldB ta30 m 1 Ak 0 k z z z z z z) fun a k=>sv k z (r_ldB ta74 m 2 Ah 0 k z z z z z z) fun a k=>oE h fun Co Bl h=>cE k m call116 z z z (c_spec_l15Apart fu _ _ (show rd _ _ [I r1.fWay,I r1.fPallet.fW,I r1.fPallet.fD,I r1.fPallet.fH,I r1.fPallet.fGram,I r1.fClasses,v9,Aj,I r1.fMaster,Ai] (r1:Request) from ⟨_,_,_,_,_,_,z,z,(Enc.rd_agr Ad (m.a00 (Enc.rd_lt Ad))),(Enc.rd_agr Ae (m.a00 (Enc.rd_lt Ae))),(Enc.rd_agr Ac (m.a00 (Enc.rd_lt Ac)))⟩) (show rd _ _ [Ag,Af] (x5:Plan) from ⟨_,_,_,_,z,z,(Enc.rd_agr Aa (m.a00 (Enc.rd_lt Aa))),(Enc.rd_agr Ab (m.a00 (Enc.rd_lt Ab)))⟩) Bl) fun Ct e a k m=>pN 2 k z fun a k=>nn (cI h k z (fun Bh h=>?_) fun Bh h=>?_))
   · refine wr (pN 1 k z fun a k=>nn (wp_ret (rt_block (rt_then ?_))))
     refine fS h k m z z
   refine wr (sv k z (r_ldB ta30 m 1 Ak 0 k z z z z z z) fun a k=>sv k z (r_ldB ta74 m 2 Ah 0 k z z z z z z) fun a k=>oE h fun Bw As h=>cE k m call117 z z z (c_spec_l15Pallets fu _ _ (show rd _ _ [I r1.fWay,I r1.fPallet.fW,I r1.fPallet.fD,I r1.fPallet.fH,I r1.fPallet.fGram,I r1.fClasses,v9,Aj,I r1.fMaster,Ai] (r1:Request) from ⟨_,_,_,_,_,_,z,z,(Enc.rd_agr Ad (m.a00 (Enc.rd_lt Ad))),(Enc.rd_agr Ae (m.a00 (Enc.rd_lt Ae))),(Enc.rd_agr Ac (m.a00 (Enc.rd_lt Ac)))⟩) (show rd _ _ [Ag,Af] (x5:Plan) from ⟨_,_,_,_,z,z,(Enc.rd_agr Aa (m.a00 (Enc.rd_lt Aa))),(Enc.rd_agr Ab (m.a00 (Enc.rd_lt Ab)))⟩) As) fun Cp e a k m=>pN 2 k z fun a k=>nn ?_)
   refine cI h k z (fun Aw h=>?_) fun Aw h=>?_
   · refine wr (pN 1 k z fun a k=>nn (wp_ret (rt_block (rt_then ?_))))
     refine fS h k m z z
   refine wp_skip (nm_block (nm_then ?_))
   refine wr (pN 1 k z fun a k=>nn (wp_ret (fS h k m z z)))
 refine wr (sv k z (r_ldB ta74 m 0 Ah 0 k z z z z z z) fun a k=>oE h fun Bn Bq h=>cE k m call109 z z z (c_spec_PlanOk fu _ (show rd _ _ [Ag,Af] (x5:Plan) from ⟨_,_,_,_,z,z,(Enc.rd_agr Aa (m.a00 (Enc.rd_lt Aa))),(Enc.rd_agr Ab (m.a00 (Enc.rd_lt Ab)))⟩) Bq) fun Cr e a k m=>pN 2 k z fun a k=>bsplit (!Bn) (fun Al=>?_) (fun Al=>?_))
 · have h:=bif_t Al h
   refine rB k 12 z Al fun k=>pN 3 k z fun a k=>nn (wp_cond_true (k.ev z) (wr (pN 1 k z fun a k=>nn (wp_ret (rt_then ?_)))))
   refine fS h k m z z
 have h:=bif_f Al h
 refine rB k 12 z Al fun k=>sv k z (r_ldB ta74 m 0 Ah 0 k z z z z z z) fun a k=>oE h fun Cd Bd h=>cE k m call110 z z z (c_spec_l15Empty fu _ (show rd _ _ [Ag,Af] (x5:Plan) from ⟨_,_,_,_,z,z,(Enc.rd_agr Aa (m.a00 (Enc.rd_lt Aa))),(Enc.rd_agr Ab (m.a00 (Enc.rd_lt Ab)))⟩) Bd) fun Bx e a k m=>pN 1 k z fun a k=>nn (cI h k z (fun Bg h=>?_) fun Bg h=>?_)
 · refine wr (pN 1 k z fun a k=>nn (wp_ret (rt_then ?_)))
   refine fS h k m z z
 refine wp_skip (nm_then ?_)
 exact ⟨k.keep [2,3] z,m.sel [1,0] z (by decide),h⟩
theorem c_spec_Feasible (fu:Nat) {w0:World} (r1:Request) (x5:Plan) {Af:List Value} {F3:List Nat} (Aq:rd w0 F3 Af r1) {Ac:List Value} {F7:List Nat} (Ao:rd w0 F7 Ac x5) {r:Bool}
    (h:d_spec_Feasible fu r1 x5 = some r) :
    Calls Tryz.prog 43 #[.agg Af.toArray,.agg Ac.toArray] w0 fun e w=>e = .returned (.bool (r)) ∧ Ext [] w0 w:=by
 refine enter (vs:=[_,_]) func43 z ntmps43 z fun a k=>?_
 have m:=St.start w0
 obtain ⟨v9,Ax,Ae,At,Ab,Aw,rfl,rfl,Ah,Aj,Ag⟩:=Aq
 obtain ⟨Ad,As,Aa,Az,rfl,rfl,Ai,Ak⟩:=Ao
 unfold d_spec_Feasible at h
 refine wr (s_box (cs:=[I r1.fWay,I r1.fPallet.fW,I r1.fPallet.fD,I r1.fPallet.fH,I r1.fPallet.fGram,I r1.fClasses,v9,Ae,I r1.fMaster,Ab]) m k z z z z z z fun Ay Bb a k m e Ap=>s_box (cs:=[Ad,Aa]) m k z z z z z z fun Av Ar a k m e Al=>pN 1 k z fun a k=>nn (wr (sv k z (r_ldB ta30 m 1 Ap 0 k z z z z z z) fun a k=>sv k z (r_ldB ta74 m 0 Al 0 k z z z z z z) fun a k=>oE h fun Au Am h=>?_)))
 refine cE k m call39 z z z (c_spec_Check fu _ _ (show rd _ _ [I r1.fWay,I r1.fPallet.fW,I r1.fPallet.fD,I r1.fPallet.fH,I r1.fPallet.fGram,I r1.fClasses,v9,Ae,I r1.fMaster,Ab] (r1:Request) from ⟨_,_,_,_,_,_,z,z,(Enc.rd_agr Ah (m.a00 (Enc.rd_lt Ah))),(Enc.rd_agr Aj (m.a00 (Enc.rd_lt Aj))),(Enc.rd_agr Ag (m.a00 (Enc.rd_lt Ag)))⟩) (show rd _ _ [Ad,Aa] (x5:Plan) from ⟨_,_,_,_,z,z,(Enc.rd_agr Ai (m.a00 (Enc.rd_lt Ai))),(Enc.rd_agr Ak (m.a00 (Enc.rd_lt Ak)))⟩) Am) fun Ba e a k m=>pN 2 k z fun a k=>nn (wp_ret (fS h k m z z))
theorem c_spec_Front (fu:Nat) {w0:World} (r1:Request) (x5:Plan) {Br:List Value} {F3:List Nat} (Cl:rd w0 F3 Br r1) {Bm:List Value} {F7:List Nat} (Cq:rd w0 F7 Bm x5) {r:Plan}
    (h:d_spec_Front fu r1 x5 = some r) :
    Calls Tryz.prog 45 #[.agg Br.toArray,.agg Bm.toArray] w0 fun e w=>∃ (Bp:List Value) (G0:List Nat),e = .returned (.agg Bp.toArray) ∧ Ext [] w0 w ∧ ow w G0 Bp r ∧ (∀ b ∈ G0,w0.heap.size ≤ b):=by
 refine enter (vs:=[_,_]) func45 z ntmps45 z fun a k=>?_
 have m:=St.start w0
 obtain ⟨v9,Ct,Aw,Df,As,Dh,rfl,rfl,Ak,Aq,Ao⟩:=Cl
 obtain ⟨At,Cr,Ar,Cu,rfl,rfl,Ab,Aa⟩:=Cq
 unfold d_spec_Front at h
 refine wr (s_box (cs:=[I r1.fWay,I r1.fPallet.fW,I r1.fPallet.fD,I r1.fPallet.fH,I r1.fPallet.fGram,I r1.fClasses,v9,Aw,I r1.fMaster,As]) m k z z z z z z fun Bl Cm a k m e Ba=>s_box (cs:=[At,Ar]) m k z z z z z z fun Bd Ch a k m e Aj=>s_alloc (cs:=[.slice none 0 0,.slice none 0 0]) m k zeroValue74 z z z z z fun Bg Cj a k m e Be=>nn (wr (sv k z (r_ldB ta74 m 1 Aj 0 k z z z z z z) fun a k=>oE h fun Bi Cp h=>s_call k call132 z z z z z (c_spec_l13Copy fu _ (show rd _ _ [At,Ar] (x5:Plan) from ⟨_,_,_,_,z,z,(Enc.rd_agr Ab (m.a00 (Enc.rd_lt Ab))),(Enc.rd_agr Aa (m.a00 (Enc.rd_lt Aa)))⟩) Cp) fun Dd Bn hR=>?_)))
 obtain ⟨Dg,Bv,rfl,e,Bb,Ci⟩:=hR
 refine ⟨_,z,fun a k=>?_⟩
 have m:=m.new e Bv (fun b hb=>⟨Ci b hb,Enc.rd_lt (Enc.ow_rd Bb) b hb⟩) (Enc.ow_nd Bb)
 obtain ⟨Ai,Az,Ay,Bs,rfl,rfl,Ad,Al,_⟩:=Bb
 have m:=m.split2
 refine s_alloc (cs:=[.slice none 0 0,.slice none 0 0]) m k zeroValue74 z z z z z fun Au Cv a k m e Cg=>s_stb (cs':=[Ai,Ay]) sizeOf74 m 0 Cg 0 k z z z z z z z z z z (allc (rd_o (Enc.ow_rd Ad)) (allc (rd_o (Enc.ow_rd Al)) alln)) fun Bx a k e m Bh=>nn (wp_seq (wr (sv k z (r_ldB ta30 m 5 Ba 0 k z z z z z z) fun a k=>sv k z (r_ldB ta74 m 4 Aj 0 k z z z z z z) fun a k=>oE h fun Cx By h=>?_)))
 refine cE k m call43 z z z (c_spec_Feasible fu _ _ (show rd _ _ [I r1.fWay,I r1.fPallet.fW,I r1.fPallet.fD,I r1.fPallet.fH,I r1.fPallet.fGram,I r1.fClasses,v9,Aw,I r1.fMaster,As] (r1:Request) from ⟨_,_,_,_,_,_,z,z,(Enc.rd_agr Ak (m.a00 (Enc.rd_lt Ak))),(Enc.rd_agr Aq (m.a00 (Enc.rd_lt Aq))),(Enc.rd_agr Ao (m.a00 (Enc.rd_lt Ao)))⟩) (show rd _ _ [At,Ar] (x5:Plan) from ⟨_,_,_,_,z,z,(Enc.rd_agr Ab (m.a00 (Enc.rd_lt Ab))),(Enc.rd_agr Aa (m.a00 (Enc.rd_lt Aa)))⟩) By) fun Db e a k m=>pN 1 k z fun a k=>nn (cI h k z (fun Cn h=>?_) fun Cn h=>?_)
 · refine wr (sv k z (r_ldB ta74 m 0 Bh 0 k z z z z z z) fun a k=>s_stb (cs':=[Ai,Ay]) sizeOf74 m 3 Be 0 k z z z z z z z z z z (allc (rd_o (Enc.ow_rd Ad)) (allc (rd_o (Enc.ow_rd Al)) alln)) fun Di a k e m Co=>nn (wp_ret (rt_then ?_)))
   cases h
   exact finR1 k z (RV.cA k z ta74 (Co.at (m.a 3 z) 0 2 z z z) z) ⟨_,_,z,m.ext,⟨_,Az,_,Bs,z,z,(Enc.ow_agr Ad (m.a 1 z)),(Enc.ow_agr Al (m.a 2 z)),by simpa [fps] using (m.sel [1,2] z (by decide)).nd⟩,(app_fresh (m.fresh 1 z) (m.fresh 2 z))⟩
 refine wp_skip (nm_then ?_)
 refine wp_seq (wr (pN 1 k z fun a k=>nn (wp_block (c_loop (fun n a w=>∃ (Ap:List Spot) (Ae:Value) (Ac:List Nat) (Av:World) (Am:World) (Ag:Int),K 46 [(2,.pointer (some (⟨Bl,0,none⟩:Addr))),(3,.pointer (some (⟨Bd,0,none⟩:Addr))),(4,.pointer (some (⟨Bg,0,none⟩:Addr))),(5,.pointer (some (⟨Au,0,none⟩:Addr))),(6,I Ag)] a ∧ St [] w0 w [([Bl],Cm),([Bd],Ch),([Bg],Cj),(Ac,Av),([Au],Am),(Az,Bn)] ∧ ow Av Ac [Ae] Ap ∧ bx Am Au [Ai,Ae] 74 ∧ d_spec_Front_L1 fu r1 x5 Bi n Ap Ag = some r) ?_ ?_ fu _ _ ?_))))
 · rintro a w ⟨_,_,_,_,_,_,_,_,_,_,h⟩
   exact nS h
 · rintro Da a Cz ⟨Ap,Ae,Ac,Av,Am,Ag,k,m,Af,Ah,h⟩
   rw [d_spec_Front_L1_s] at h
   unfold d_spec_Front_L1_B at h
   refine wp_seq (wr (pN 1 k z fun a k=>sv k z (r_fa fa74_1 k z z) fun a k=>sv k z (r_ldb t172 m 4 Ah 1 k z z z z z) fun a k=>sv k z (r_len (α:=Spot) (Enc.ow_rd Af) k underlying72 z z) fun a k=>pN 1 k z fun a k=>nn (cI h k z (fun Cd h=>?_) fun Cd h=>?_)))
   · refine wp_skip (nm_then ?_)
     refine wp_seq (wp_block (d_go (Ac) mixo m z fun Bw hMd=>?_))
     have m:=hMd
     have s:=Ext.refl ((Ac):List Nat) Bw
     refine dN [2,8,16] 3 z k (by kernel_rfl) z s (fun _ _ _ _ _=>id) fun a k=>dt k 0 z (by kernel_rfl) z s (fun _ _ _=>id) (fun w s=>r_fa fa74_1 k z z) fun a k=>dt k 1 z (by kernel_rfl) z s (fun _ _ _=>id) (fun w s=>r_ld1 t172 (r:=[]) (Ah.at (hMd.az 4 3 z z z s) 1 1 z z z) k z z) fun a k=>dt k 3 z (by kernel_rfl) z s (fun _ _ _=>id) (fun w s=>r_fa fa30_1 k z z) fun a k=>dt k 4 z (by kernel_rfl) z s (fun _ _ _=>id) (fun w s=>r_fa fa25_1 k z z) fun a k=>dt k 5 z (by kernel_rfl) z s (fun _ _ _=>id) (fun w s=>r_ld1 t13 (r:=[]) (Ba.at (hMd.az 0 3 z z z s) 2 1 z z z) k z z) fun a k=>dt k 6 z (by kernel_rfl) z s (fun _ _ _=>id) (fun w s=>r_fa fa74_1 k z z) fun a k=>?_
     refine dt k 7 z (by kernel_rfl) z s (fun _ _ _=>id) (fun w s=>r_ld1 t172 (r:=[]) (Aj.at (hMd.az 1 3 z z z s) 1 1 z z z) k z z) fun a k=>oE h fun Bf Bj h=>dt k 9 z (by kernel_rfl) z s (fun _ _ _=>id) (fun w s=>r_ixa Aa Bj k ts72 z z z) fun a k=>dt k 10 z (by kernel_rfl) z s (fun _ _ _=>id) (fun w s=>r_fa fa139_2 k z z) fun a k=>dt k 11 z (by kernel_rfl) z s (fun _ _ _=>id) (fun w s=>r_lde1 Aa (hMd.az0 3 z z (Enc.rd_lt Aa) s) Bj 2 t13 k z z z z) fun a k=>dN [12] 1 z k (by kernel_rfl) z s (fun _ _ _ _ _=>id) fun a k=>dt k 13 z (by kernel_rfl) z s (fun _ _ _=>id) (fun w s=>r_ldA ta30 (Ba.at (hMd.az 0 3 z z z s) 0 10 z z z) z k z z) fun a k=>?_
     refine dt k 14 z (by kernel_rfl) z s (fun _ _ _=>id) (fun w s=>r_fa fa74_0 k z z) fun a k=>dt k 15 z (by kernel_rfl) z s (fun _ _ _=>id) (fun w s=>r_ld1 t143 (r:=[]) (Aj.at (hMd.az 1 3 z z z s) 0 1 z z z) k z z) fun a k=>oE h fun Ax Bq h=>dt k 17 z (by kernel_rfl) z s (fun _ _ _=>id) (fun w s=>r_ixa Ab Bq k ts43 z z z) fun a k=>?_
     obtain ⟨Cy,Cs,De,Cf,Bu,Cb⟩:=rd_get Ab (ix_some Bq).2.2
     obtain ⟨Cc,_,rfl,rfl,Bc⟩:=Cf
     refine dt k 18 z (by kernel_rfl) z s (fun _ _ _=>id) (fun w s=>r_ldA ta33 (Bu.agr (hMd.az0 3 z z (Enc.rd_lt Ab) s) Cb) z k z z) fun a k=>d_one 19 (by kernel_rfl) z (oE h fun Bo Ca h=>cE k m call133 z z z (c_spec_BoxOf fu _ _ (show rd _ _ [I r1.fWay,I r1.fPallet.fW,I r1.fPallet.fD,I r1.fPallet.fH,I r1.fPallet.fGram,I r1.fClasses,v9,Aw,I r1.fMaster,As] (r1:Request) from ⟨_,_,_,_,_,_,z,z,(Enc.rd_agr Ak (m.a00 (Enc.rd_lt Ak))),(Enc.rd_agr Aq (m.a00 (Enc.rd_lt Aq))),(Enc.rd_agr Ao (m.a00 (Enc.rd_lt Ao)))⟩) (show rd _ _ [I Ax.fType,I Ax.fGroup,Cc] (Ax:Carton) from ⟨_,_,z,z,(Enc.rd_agr Bc (m.a00 (Enc.rd_lt Bc)))⟩) Ca) fun Dc e a k m=>?_)
     have s:=s.trans e (by simp)
     refine wpList_nil ⟨s,?_⟩
     refine dt k 20 z (by kernel_rfl) z s (fun _ _ _=>id) (fun w s=>r_fld1 fd140_1 k z z z) fun a k=>dN [21] 1 z k (by kernel_rfl) z s (fun _ _ _ _ _=>id) fun a k=>oE h fun Bt Bk h=>dt k 22 z (by kernel_rfl) z s (fun _ _ _=>id) (fun w s=>r_ixa (Enc.ow_rd Af) Bk k ts72 z z z) fun a k=>dt k 23 z (by kernel_rfl) z s (fun _ _ _=>id) (fun w s=>r_fa fa139_2 k z z) fun a k=>d_one 24 (by kernel_rfl) z (s_ste (α:=Spot) (sz:=4) (y:={ Bt with fY:=w64 ((w64 (r1.fPallet.fD - Bf.fY)) - Bo.fD) }) sizeOf3 Bk m 3 Af 2 k z z z z z z z z z z z z fun Bz a k e m Ce=>?_)
     have s:=s.trans e (fun y hy=>Or.inl hy)
     refine wpList_nil ⟨s,?_⟩
     refine d_done (by kernel_rfl) ?_
     have k:=k.keep [2,3,4,5,6] z
     refine (nm_block (nm_then ?_))
     refine wp_region_lit (pN 3 k z fun a k=>nn ?_)
     exact ⟨setx Ap Ag ({ Bt with fY:=w64 ((w64 (r1.fPallet.fD - Bf.fY)) - Bo.fD) }),Ae,Ac,Bz,Am,w64 (Ag + 1),k.keep [2,3,4,5,6] z,m.sel [0,1,2,3,4,5] z (by decide),Ce,Ah,h⟩
   refine wp_exit (ex_then (ex_then (ex_same (nm_then ?_))))
   refine wr (sv k z (r_ldB ta74 m 4 Ah 0 k z z z z z z) fun a k=>s_stb (cs':=[Ai,Ae]) sizeOf74 m 2 Be 0 k z z z z z z z z z z (allc (rd_o (Enc.ow_rd Ad)) (allc (rd_o (Enc.ow_rd Af)) alln)) fun Cw a k e m Ck=>nn (wp_ret ?_))
   cases h
   exact finR1 k z (RV.cA k z ta74 (Ck.at (m.a 2 z) 0 2 z z z) z) ⟨_,_,z,m.ext,⟨_,Az,_,Ac,z,z,(Enc.ow_agr Ad (m.a 5 z)),(Enc.ow_agr Af (m.a 3 z)),by simpa [fps] using (m.sel [5,3] z (by decide)).nd⟩,(app_fresh (m.fresh 5 z) (m.fresh 3 z))⟩
 exact ⟨Bi.fSpots,Ay,Bs,Bn,Bx,0,k.keep [2,3,4,5,6] z,m.sel [5,4,3,2,0,1] z (by decide),Al,Bh,h⟩

end Go.Proofs.YtlmibnlfkmiikaaGreat
