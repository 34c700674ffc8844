/- FnExactFront: the walks of functions that it reaches (ExactFrontBWs,part 3). Printed by gen.py. -/
import Derived.Test.YtlmibnlfkmiikaaGreatExactFrontBWs2
set_option maxRecDepth 20000
set_option linter.unusedSimpArgs false
set_option linter.unusedVariables false
namespace Go.Proofs.YtlmibnlfkmiikaaGreat
open Go Go.RowKit
open Enc (rd ow)
open Arg (argv)
open Ret (retv)
open Go.Proofs.Tryz

theorem c_spec_l15Cheap (fu:Nat) {w0:World} (r1:Request) (x5:Plan) {Aw:List Value} {F3:List Nat} (Bo:rd w0 F3 Aw r1) {Av:List Value} {F7:List Nat} (Bt:rd w0 F7 Av x5) {r:Bool}
    (h:d_spec_l15Cheap fu r1 x5 = some r) :
    Calls Tryz.prog 114 #[.agg Aw.toArray,.agg Av.toArray] w0 fun e w=>e = .returned (.bool (r)) ∧ Ext [] w0 w:=by
 refine enter (vs:=[_,_]) func114 z ntmps114 z fun a k=>?_
 have m:=St.start w0
 obtain ⟨v9,Cn,Aq,Ci,Ap,Da,rfl,rfl,Ak,Al,Aj⟩:=Bo
 obtain ⟨Bs,Cm,Ba,Cj,rfl,rfl,Ae,Ct⟩:=Bt
 unfold d_spec_l15Cheap at h
 refine wr (s_box (cs:=[I r1.fWay,I r1.fPallet.fW,I r1.fPallet.fD,I r1.fPallet.fH,I r1.fPallet.fGram,I r1.fClasses,v9,Aq,I r1.fMaster,Ap]) m k z z z z z z fun Af Ar a k m e Bu=>s_box (cs:=[Bs,Ba]) m k z z z z z z fun Ag As a k m e Au=>pN 1 k z fun a k=>nn (wp_seq (wr (pN 1 k z fun a k=>nn (wp_block (c_loop (fun n a w=>∃ (Ad:Int),K 39 [(2,.pointer (some (⟨Af,0,none⟩:Addr))),(3,.pointer (some (⟨Ag,0,none⟩:Addr))),(5,I Ad)] a ∧ St [] w0 w [([Af],Ar),([Ag],As)] ∧ d_spec_l15Cheap_L1 fu r1 x5 n Ad = some r) ?_ ?_ fu _ _ ?_))))))
 · rintro a w ⟨_,_,_,h⟩
   exact nS h
 · rintro Ax a Cz ⟨Ad,k,m,h⟩
   rw [d_spec_l15Cheap_L1_s] at h
   unfold d_spec_l15Cheap_L1_B at h
   refine wp_seq (wr (pN 1 k z fun a k=>sv k z (r_fa fa74_0 k z z) fun a k=>sv k z (r_ldb t143 m 1 Au 0 k z z z z z) fun a k=>sv k z (r_len (α:=Carton) Ae k underlying43 z z) fun a k=>pN 1 k z fun a k=>nn (cI h k z (fun Cb h=>?_) fun Cb h=>?_)))
   · refine wp_skip (nm_then ?_)
     refine c_cut (fun a w=>K 39 [(2,.pointer (some (⟨Af,0,none⟩:Addr))),(3,.pointer (some (⟨Ag,0,none⟩:Addr))),(5,I Ad)] a ∧ St [] w0 w [([Af],Ar),([Ag],As)] ∧ d_spec_l15Cheap_J1 fu (d_spec_l15Cheap_L1 fu r1 x5 Ax) Ad = some r) ?_ ?_
     · rintro a Cl ⟨k,m,h⟩
       unfold d_spec_l15Cheap_J1 at h
       refine wp_region_lit (pN 3 k z fun a k=>nn ?_)
       exact ⟨w64 (Ad + 1),k.keep [2,3,5] z,m.sel [0,1] z (by decide),h⟩
     refine wp_block (c_cut (fun a w=>∃ (Ac:Typ) (Ai:Nat) (At:World) (Ao:Bool),K 39 [(2,.pointer (some (⟨Af,0,none⟩:Addr))),(3,.pointer (some (⟨Ag,0,none⟩:Addr))),(5,I Ad),(6,.pointer (some (⟨Ai,0,none⟩:Addr))),(7,.bool (Ao))] a ∧ St [] w0 w [([Af],Ar),([Ag],As),([Ai],At)] ∧ bx At Ai [I Ac.fId,I Ac.fW,I Ac.fH,I Ac.fD,I Ac.fTare,I Ac.fGram,I Ac.fCost] 38 ∧ d_spec_l15Cheap_J2 fu (d_spec_l15Cheap_L1 fu r1 x5 Ax) x5 Ad Ac Ao = some r) ?_ ?_)
     · rintro a Db ⟨Ac,Ai,At,Ao,k,m,Bx,h⟩
       unfold d_spec_l15Cheap_J2 at h
       refine wp_seq (d_go [] mixo m z fun Bc hMd=>?_)
       have m:=hMd
       have s:=Ext.refl ([]:List Nat) Bc
       refine dN [0,1,2] 3 z k (by kernel_rfl) z s (fun _ _ _ _ _=>id) fun a k=>bsplit (!Ao) (fun Ah=>?_) (fun Ah=>?_)
       · have h:=bif_t Ah h
         refine rB k 28 z Ah fun k=>dN [3,4,5,6,7,8,9,10,11,12] 10 z k (by kernel_rfl) z s (fun _ _ _ _ _=>id) fun a k=>d_done (by kernel_rfl) ((nm_then ?_))
         refine wp_cond_true (k.ev z) (wr (pN 1 k z fun a k=>nn (wp_ret (rt_block (rt_then (rt_then (rt_block (rt_then ?_))))))))
         refine fS h k m z z
       have h:=bif_f Ah h
       refine rB k 28 z Ah fun k=>dN [7] 1 z k (by kernel_rfl) z s (fun _ _ _ _ _=>id) fun a k=>dt k 3 z (by kernel_rfl) z s (fun _ _ _=>id) (fun w s=>r_fa fa38_0 k z z) fun a k=>dt k 4 z (by kernel_rfl) z s (fun _ _ _=>id) (fun w s=>r_ld1 t13 (r:=[]) (Bx.at ((hMd.step s).a 2 z) 0 1 z z z) k z z) fun a k=>dt k 5 z (by kernel_rfl) z s (fun _ _ _=>id) (fun w s=>r_fa fa74_0 k z z) fun a k=>dt k 6 z (by kernel_rfl) z s (fun _ _ _=>id) (fun w s=>r_ld1 t143 (r:=[]) (Au.at ((hMd.step s).a 1 z) 0 1 z z z) k z z) fun a k=>oE h fun Cv Az h=>dt k 8 z (by kernel_rfl) z s (fun _ _ _=>id) (fun w s=>r_ixa Ae Az k ts43 z z z) fun a k=>dt k 9 z (by kernel_rfl) z s (fun _ _ _=>id) (fun w s=>r_fa fa33_0 k z z) fun a k=>?_
       obtain ⟨Ce,Cf,Cp,Bm,Be,Bz⟩:=rd_get Ae (ix_some Az).2.2
       obtain ⟨Cx,_,rfl,rfl,Cg⟩:=Bm
       refine dt k 10 z (by kernel_rfl) z s (fun _ _ _=>id) (fun w s=>r_ld1 t13 ((Be.agr ((hMd.step s).a00 (Enc.rd_lt Ae)) Bz).fld 0 1 (Nat.le_of_ble_eq_true z)) k z z) fun a k=>dN [11,12] 2 z k (by kernel_rfl) z s (fun _ _ _ _ _=>id) fun a k=>d_done (by kernel_rfl) ((nm_then ?_))
       refine cI h k z (fun Bn h=>?_) fun Bn h=>?_
       · refine wr (pN 1 k z fun a k=>nn (wp_ret (rt_block (rt_then (rt_then (rt_block (rt_then ?_)))))))
         refine fS h k m z z
       refine wp_skip (nm_block (nm_then ?_))
       exact ⟨k.keep [2,3,5] z,m.sel [0,1] z (by decide),h⟩
     refine d_go [] mixo m z fun Bf hMd=>?_
     have m:=hMd
     have s:=Ext.refl ([]:List Nat) Bf
     refine dN [3] 1 z k (by kernel_rfl) z s (fun _ _ _ _ _=>id) fun a k=>dt k 0 z (by kernel_rfl) z s (fun _ _ _=>id) (fun w s=>r_ldA ta30 (Bu.at ((hMd.step s).a 0 z) 0 10 z z z) z k z z) fun a k=>dt k 1 z (by kernel_rfl) z s (fun _ _ _=>id) (fun w s=>r_fa fa74_0 k z z) fun a k=>dt k 2 z (by kernel_rfl) z s (fun _ _ _=>id) (fun w s=>r_ld1 t143 (r:=[]) (Au.at ((hMd.step s).a 1 z) 0 1 z z z) k z z) fun a k=>oE h fun Cr Ay h=>dt k 4 z (by kernel_rfl) z s (fun _ _ _=>id) (fun w s=>r_ixa Ae Ay k ts43 z z z) fun a k=>dt k 5 z (by kernel_rfl) z s (fun _ _ _=>id) (fun w s=>r_fa fa33_2 k z z) fun a k=>?_
     obtain ⟨Ch,Ck,Cy,Bb,Bh,Br⟩:=rd_get Ae (ix_some Ay).2.2
     obtain ⟨Cs,_,rfl,rfl,Am⟩:=Bb
     refine dt k 6 z (by kernel_rfl) z s (fun _ _ _=>id) (fun w s=>r_ld1 t131 ((Bh.agr ((hMd.step s).a00 (Enc.rd_lt Ae)) Br).fld 2 1 (Nat.le_of_ble_eq_true z)) k z z) fun a k=>d_two 7 11 (by kernel_rfl) z z ?_ ?_ 
     · refine oE h fun Aa By h=>cE k m call193 z z z (c_spec_Cheapest fu _ _ (show rd _ _ [I r1.fWay,I r1.fPallet.fW,I r1.fPallet.fD,I r1.fPallet.fH,I r1.fPallet.fGram,I r1.fClasses,v9,Aq,I r1.fMaster,Ap] (r1:Request) from ⟨_,_,_,_,_,_,z,z,(Enc.rd_agr Ak (m.a00 (Enc.rd_lt Ak))),(Enc.rd_agr Al (m.a00 (Enc.rd_lt Al))),(Enc.rd_agr Aj (m.a00 (Enc.rd_lt Aj)))⟩) (Enc.rd_agr Am (m.a00 (Enc.rd_lt Am))) By) fun Cq e a k m=>?_
       have s:=s.trans e (by simp)
       refine wpList_nil ⟨s,?_⟩
       refine dN [8,9,10] 3 z k (by kernel_rfl) z s (fun _ _ _ _ _=>id) fun a k=>d_one 11 (by kernel_rfl) z (s_allocN (cs:=[I 0,I 0,I 0,I 0,I 0,I 0,I 0]) m k zeroValue38 z z z z z fun Bv Cw a k m e Bl Bd=>?_)
       have Bg:=lo1 (Nat.le_trans s.size Bd)
       have s:=s.trans e (by simp)
       refine wpList_nil ⟨s,?_⟩
       refine d_one 12 (by kernel_rfl) z (s_stb (cs':=[I Aa.1.fId,I Aa.1.fW,I Aa.1.fH,I Aa.1.fD,I Aa.1.fTare,I Aa.1.fGram,I Aa.1.fCost]) sizeOf38 m 0 Bl 0 k z z z z z z z z z z z fun Bw a k e m Cc=>?_)
       have s:=s.trans e (fun y hy=>Or.inr (Bg y hy))
       refine wpList_nil ⟨s,?_⟩
       refine dN [13] 1 z k (by kernel_rfl) z s (fun _ _ _ _ _=>id) fun a k=>d_done (by kernel_rfl) ((nm_then ?_))
       exact ⟨Aa.1,Bv,Bw,Aa.2,k.keep [2,3,5,6,7] z,m.sel [1,2,0] z (by decide),Cc,h⟩
     refine s_allocN (cs:=[I 0,I 0,I 0,I 0,I 0,I 0,I 0]) m k zeroValue38 z z z z z fun Bk Cu a k m e Cd Ca=>?_
     have Bj:=lo1 (Nat.le_trans s.size Ca)
     have s:=s.trans e (by simp)
     refine wpList_nil ⟨s,?_⟩
     refine d_one 7 (by kernel_rfl) z (oE h fun Ab Bp h=>cE k m call193 z z z (c_spec_Cheapest fu _ _ (show rd _ _ [I r1.fWay,I r1.fPallet.fW,I r1.fPallet.fD,I r1.fPallet.fH,I r1.fPallet.fGram,I r1.fClasses,v9,Aq,I r1.fMaster,Ap] (r1:Request) from ⟨_,_,_,_,_,_,z,z,(Enc.rd_agr Ak (m.a00 (Enc.rd_lt Ak))),(Enc.rd_agr Al (m.a00 (Enc.rd_lt Al))),(Enc.rd_agr Aj (m.a00 (Enc.rd_lt Aj)))⟩) (Enc.rd_agr Am (m.a00 (Enc.rd_lt Am))) Bp) fun Co e a k m=>?_)
     have s:=s.trans e (by simp)
     refine wpList_nil ⟨s,?_⟩
     refine dN [8,9,10] 3 z k (by kernel_rfl) z s (fun _ _ _ _ _=>id) fun a k=>d_one 12 (by kernel_rfl) z (s_stb (cs':=[I Ab.1.fId,I Ab.1.fW,I Ab.1.fH,I Ab.1.fD,I Ab.1.fTare,I Ab.1.fGram,I Ab.1.fCost]) sizeOf38 m 0 Cd 0 k z z z z z z z z z z z fun Bi a k e m Bq=>?_)
     have s:=s.trans e (fun y hy=>Or.inr (Bj y hy))
     refine wpList_nil ⟨s,?_⟩
     refine dN [13] 1 z k (by kernel_rfl) z s (fun _ _ _ _ _=>id) fun a k=>d_done (by kernel_rfl) ((nm_then ?_))
     exact ⟨Ab.1,Bk,Bi,Ab.2,k.keep [2,3,5,6,7] z,m.sel [1,2,0] z (by decide),Bq,h⟩
   refine wp_exit (ex_then (ex_then (ex_same (nm_then ?_))))
   refine wr (pN 1 k z fun a k=>nn (wp_ret (fS h k m z z)))
 exact ⟨0,k.keep [2,3,5] z,m.sel [1,0] z (by decide),h⟩
theorem c_spec_Units (fu:Nat) {w0:World} (r1:Request) {Ag:List Value} {F3:List Nat} (Ai:rd w0 F3 Ag r1) {r:(List Int)}
    (h:d_spec_Units fu r1 = some r) :
    Calls Tryz.prog 155 #[.agg Ag.toArray] w0 fun e w=>∃ (v0:Value) (G0:List Nat),e = .returned (v0) ∧ Ext [] w0 w ∧ ow w G0 [v0] r ∧ (∀ b ∈ G0,w0.heap.size ≤ b):=by
 refine enter (vs:=[_]) func155 z ntmps155 z fun a k=>?_
 have m:=St.start w0
 obtain ⟨v5,F6,v7,F8,v9,Aw,rfl,rfl,Ab,Ac,Aa⟩:=Ai
 unfold d_spec_Units at h
 refine wr (s_box (cs:=[I r1.fWay,I r1.fPallet.fW,I r1.fPallet.fD,I r1.fPallet.fH,I r1.fPallet.fGram,I r1.fClasses,v5,v7,I r1.fMaster,v9]) m k z z z z z z fun Au Ay a k m e Ae=>pN 1 k z fun a k=>nn (wp_seq (wr (sv k z (r_ldB ta30 m 0 Ae 0 k z z z z z z) fun a k=>oE h fun Ax Ah h=>cE k m call19 z z z (c_spec_Class fu _ (show rd _ _ [I r1.fWay,I r1.fPallet.fW,I r1.fPallet.fD,I r1.fPallet.fH,I r1.fPallet.fGram,I r1.fClasses,v5,v7,I r1.fMaster,v9] (r1:Request) from ⟨_,_,_,_,_,_,z,z,(Enc.rd_agr Ab (m.a00 (Enc.rd_lt Ab))),(Enc.rd_agr Ac (m.a00 (Enc.rd_lt Ac))),(Enc.rd_agr Aa (m.a00 (Enc.rd_lt Aa)))⟩) Ah) fun Av e a k m=>?_))))
 refine pN 1 k z fun a k=>nn (cI h k z (fun Al h=>?_) fun Al h=>?_)
 · refine wr (s_bs (cs:=[]) (ps:=[]) te31 m k z z z z z z z (by decide) z (by exact (List.forall_mem_nil _)) fun Ak Ar Az a k m e Ao=>?_)
   have Aj:=ow_bx Ao ([]:List Int) z z z
   refine pN 1 k z fun a k=>nn (wp_ret (rt_then ?_))
   cases h
   exact finR1 k z (RV.tmp k z) ⟨_,[Ak],z,m.ext,(Enc.ow_agr Aj (m.a 0 z)),(m.fresh 0 z)⟩
 refine wp_skip (nm_then ?_)
 refine wr (sv k z (r_ldB ta30 m 0 Ae 0 k z z z z z z) fun a k=>oE h fun At Am h=>s_call k call86 z z z z z (c_spec_l6Units fu _ (show rd _ _ [I r1.fWay,I r1.fPallet.fW,I r1.fPallet.fD,I r1.fPallet.fH,I r1.fPallet.fGram,I r1.fClasses,v5,v7,I r1.fMaster,v9] (r1:Request) from ⟨_,_,_,_,_,_,z,z,(Enc.rd_agr Ab (m.a00 (Enc.rd_lt Ab))),(Enc.rd_agr Ac (m.a00 (Enc.rd_lt Ac))),(Enc.rd_agr Aa (m.a00 (Enc.rd_lt Aa)))⟩) Am) fun As Ba hR=>?_)
 obtain ⟨Aq,Af,rfl,e,Ad,Ap⟩:=hR
 refine ⟨_,z,fun a k=>?_⟩
 have m:=m.new e Af (fun b hb=>⟨Ap b hb,Enc.rd_lt (Enc.ow_rd Ad) b hb⟩) (Enc.ow_nd Ad)
 refine pN 1 k z fun a k=>nn (wp_ret ?_)
 cases h
 exact finR1 k z (RV.tmp k z) ⟨_,Af,z,m.ext,(Enc.ow_agr Ad (m.a 0 z)),(m.fresh 0 z)⟩
theorem c_spec_GramOf (fu:Nat) {w0:World} (r1:Request) (Aj:List Int) {Az:List Value} {F3:List Nat} (Be:rd w0 F3 Az r1) {v6:Value} {F7:List Nat} (Ap:rd w0 F7 [v6] Aj) {r:Int}
    (h:d_spec_GramOf fu r1 Aj = some r) :
    Calls Tryz.prog 275 #[.agg Az.toArray,v6] w0 fun e w=>e = .returned (I r) ∧ Ext [] w0 w:=by
 refine enter (vs:=[_,_]) func275 z ntmps275 z fun a k=>?_
 have m:=St.start w0
 obtain ⟨v9,Cd,Aq,Ca,Ak,Bz,rfl,rfl,Ag,Ah,Ae⟩:=Be
 unfold d_spec_GramOf at h
 refine wr (s_box (cs:=[I r1.fWay,I r1.fPallet.fW,I r1.fPallet.fD,I r1.fPallet.fH,I r1.fPallet.fGram,I r1.fClasses,v9,Aq,I r1.fMaster,Ak]) m k z z z z z z fun Ai Au a k m e Ay=>pN 1 k z fun a k=>nn (wr (sv k z (r_ldB ta30 m 0 Ay 0 k z z z z z z) fun a k=>oE h fun At Bq h=>?_)))
 refine s_call k call155 z z z z z (c_spec_Units fu _ (show rd _ _ [I r1.fWay,I r1.fPallet.fW,I r1.fPallet.fD,I r1.fPallet.fH,I r1.fPallet.fGram,I r1.fClasses,v9,Aq,I r1.fMaster,Ak] (r1:Request) from ⟨_,_,_,_,_,_,z,z,(Enc.rd_agr Ag (m.a00 (Enc.rd_lt Ag))),(Enc.rd_agr Ah (m.a00 (Enc.rd_lt Ah))),(Enc.rd_agr Ae (m.a00 (Enc.rd_lt Ae)))⟩) Bq) fun By Av hR=>?_
 obtain ⟨As,Ao,rfl,e,Am,Bh⟩:=hR
 refine ⟨_,z,fun a k=>?_⟩
 have m:=m.new e Ao (fun b hb=>⟨Bh b hb,Enc.rd_lt (Enc.ow_rd Am) b hb⟩) (Enc.ow_nd Am)
 refine pN 1 k z fun a k=>nn (wr (pN 1 k z fun a k=>nn (wp_seq (wr (pN 1 k z fun a k=>nn (wp_block (c_loop (fun n a w=>∃ (Af:Int) (Ab:Int),K 33 [(1,v6),(2,.pointer (some (⟨Ai,0,none⟩:Addr))),(5,As),(6,I Af),(7,I Ab)] a ∧ St [] w0 w [([Ai],Au),(Ao,Av)] ∧ d_spec_GramOf_L1 fu r1 Aj At n Af Ab = some r) ?_ ?_ fu _ _ ?_)))))))
 · rintro a w ⟨_,_,_,_,h⟩
   exact nS h
 · rintro Ax a Cc ⟨Af,Ab,k,m,h⟩
   rw [d_spec_GramOf_L1_s] at h
   unfold d_spec_GramOf_L1_B at h
   refine wp_seq (wr (pN 2 k z fun a k=>sv k z (r_len (α:=Int) Ap k underlying31 z z) fun a k=>pN 1 k z fun a k=>nn (cI h k z (fun Bj h=>?_) fun Bj h=>?_)))
   · refine wp_skip (nm_then ?_)
     refine c_cut (fun a w=>∃ (Al:Int),K 33 [(1,v6),(2,.pointer (some (⟨Ai,0,none⟩:Addr))),(5,As),(6,I Al),(7,I Ab)] a ∧ St [] w0 w [([Ai],Au),(Ao,Av)] ∧ d_spec_GramOf_J1 fu (d_spec_GramOf_L1 fu r1 Aj At Ax) Ab Al = some r) ?_ ?_
     · rintro a Bw ⟨Al,k,m,h⟩
       unfold d_spec_GramOf_J1 at h
       refine wp_region_lit (pN 3 k z fun a k=>nn ?_)
       exact ⟨Al,w64 (Ab + 1),k.keep [1,2,5,6,7] z,m.sel [0,1] z (by decide),h⟩
     refine wp_block (c_cut (fun a w=>∃ (Aa:Item) (Ar:Nat) (Aw:World),K 33 [(1,v6),(2,.pointer (some (⟨Ai,0,none⟩:Addr))),(5,As),(6,I Af),(7,I Ab),(8,.pointer (some (⟨Ar,0,none⟩:Addr)))] a ∧ St [] w0 w [([Ai],Au),(Ao,Av),([Ar],Aw)] ∧ bx Aw Ar [I Aa.fId,I Aa.fW,I Aa.fH,I Aa.fD,I Aa.fGram,I Aa.fClass,I Aa.fCount] 97 ∧ d_spec_GramOf_J2 fu (d_spec_GramOf_L1 fu r1 Aj At Ax) Af Ab Aa = some r) ?_ ?_)
     · rintro a Cg ⟨Aa,Ar,Aw,k,m,Bf,h⟩
       unfold d_spec_GramOf_J2 at h
       refine wp_region_lit (pN 1 k z fun a k=>sv k z (r_fa fa97_4 k z z) fun a k=>sv k z (r_ldb t13 m 2 Bf 4 k z z z z z) fun a k=>pN 2 k z fun a k=>wpList_nil (nm_block (nm_then ?_)))
       exact ⟨w64 (Af + Aa.fGram),k.keep [1,2,5,6,7] z,m.sel [0,1] z (by decide),h⟩
     refine d_go [] mixo m z fun Bb hMd=>?_
     have m:=hMd
     have s:=Ext.refl ([]:List Nat) Bb
     refine dN [1,2,3] 3 z k (by kernel_rfl) z s (fun _ _ _ _ _=>id) fun a k=>dt k 0 z (by kernel_rfl) z s (fun _ _ _=>id) (fun w s=>r_ldA ta30 (Ay.at ((hMd.step s).a 0 z) 0 10 z z z) z k z z) fun a k=>oE h fun Bv Ba h=>dt k 4 z (by kernel_rfl) z s (fun _ _ _=>id) (fun w s=>r_ixa Ap Ba k ts31 z z z) fun a k=>dt k 5 z (by kernel_rfl) z s (fun _ _ _=>id) (fun w s=>r_lde1 Ap ((hMd.step s).a00 (Enc.rd_lt Ap)) Ba 0 t13 k z z z z) fun a k=>d_two 6 10 (by kernel_rfl) z z ?_ ?_ 
     · refine oE h fun Ad Bm h=>cE k m call156 z z z (c_spec_l6Item fu _ _ _ (show rd _ _ [I r1.fWay,I r1.fPallet.fW,I r1.fPallet.fD,I r1.fPallet.fH,I r1.fPallet.fGram,I r1.fClasses,v9,Aq,I r1.fMaster,Ak] (r1:Request) from ⟨_,_,_,_,_,_,z,z,(Enc.rd_agr Ag (m.a00 (Enc.rd_lt Ag))),(Enc.rd_agr Ah (m.a00 (Enc.rd_lt Ah))),(Enc.rd_agr Ae (m.a00 (Enc.rd_lt Ae)))⟩) (Enc.rd_agr (Enc.ow_rd Am) (m.a 1 z)) Bm) fun Cb e a k m=>?_
       have s:=s.trans e (by simp)
       refine wpList_nil ⟨s,?_⟩
       refine dN [7,8,9] 3 z k (by kernel_rfl) z s (fun _ _ _ _ _=>id) fun a k=>d_one 10 (by kernel_rfl) z (s_allocN (cs:=[I 0,I 0,I 0,I 0,I 0,I 0,I 0]) m k zeroValue97 z z z z z fun Bc Bx a k m e Bn Br=>?_)
       have Bp:=lo1 (Nat.le_trans s.size Br)
       have s:=s.trans e (by simp)
       refine wpList_nil ⟨s,?_⟩
       refine d_one 11 (by kernel_rfl) z (s_stb (cs':=[I Ad.1.fId,I Ad.1.fW,I Ad.1.fH,I Ad.1.fD,I Ad.1.fGram,I Ad.1.fClass,I Ad.1.fCount]) sizeOf97 m 0 Bn 0 k z z z z z z z z z z z fun Bo a k e m Bt=>?_)
       have s:=s.trans e (fun y hy=>Or.inr (Bp y hy))
       refine wpList_nil ⟨s,?_⟩
       refine dN [12] 1 z k (by kernel_rfl) z s (fun _ _ _ _ _=>id) fun a k=>d_done (by kernel_rfl) ((nm_then ?_))
       exact ⟨Ad.1,Bc,Bo,k.keep [1,2,5,6,7,8] z,m.sel [1,2,0] z (by decide),Bt,h⟩
     refine s_allocN (cs:=[I 0,I 0,I 0,I 0,I 0,I 0,I 0]) m k zeroValue97 z z z z z fun Bs Ce a k m e Bd Bi=>?_
     have Bk:=lo1 (Nat.le_trans s.size Bi)
     have s:=s.trans e (by simp)
     refine wpList_nil ⟨s,?_⟩
     refine d_one 6 (by kernel_rfl) z (oE h fun Ac Bl h=>cE k m call156 z z z (c_spec_l6Item fu _ _ _ (show rd _ _ [I r1.fWay,I r1.fPallet.fW,I r1.fPallet.fD,I r1.fPallet.fH,I r1.fPallet.fGram,I r1.fClasses,v9,Aq,I r1.fMaster,Ak] (r1:Request) from ⟨_,_,_,_,_,_,z,z,(Enc.rd_agr Ag (m.a00 (Enc.rd_lt Ag))),(Enc.rd_agr Ah (m.a00 (Enc.rd_lt Ah))),(Enc.rd_agr Ae (m.a00 (Enc.rd_lt Ae)))⟩) (Enc.rd_agr (Enc.ow_rd Am) (m.a 2 z)) Bl) fun Cf e a k m=>?_)
     have s:=s.trans e (by simp)
     refine wpList_nil ⟨s,?_⟩
     refine dN [7,8,9] 3 z k (by kernel_rfl) z s (fun _ _ _ _ _=>id) fun a k=>d_one 11 (by kernel_rfl) z (s_stb (cs':=[I Ac.1.fId,I Ac.1.fW,I Ac.1.fH,I Ac.1.fD,I Ac.1.fGram,I Ac.1.fClass,I Ac.1.fCount]) sizeOf97 m 0 Bd 0 k z z z z z z z z z z z fun Bg a k e m Bu=>?_)
     have s:=s.trans e (fun y hy=>Or.inr (Bk y hy))
     refine wpList_nil ⟨s,?_⟩
     refine dN [12] 1 z k (by kernel_rfl) z s (fun _ _ _ _ _=>id) fun a k=>d_done (by kernel_rfl) ((nm_then ?_))
     exact ⟨Ac.1,Bs,Bg,k.keep [1,2,5,6,7,8] z,m.sel [1,2,0] z (by decide),Bu,h⟩
   refine wp_exit (ex_then (ex_then (ex_same (nm_then ?_))))
   refine wr (pN 2 k z fun a k=>nn (wp_ret (fS h k m z z)))
 exact ⟨0,0,k.keep [1,2,5,6,7] z,m.sel [1,0] z (by decide),h⟩
theorem c_spec_Gross (fu:Nat) {w0:World} (r1:Request) (x5:Carton) {Ak:List Value} {F3:List Nat} (Ar:rd w0 F3 Ak r1) {Ai:List Value} {F7:List Nat} (Az:rd w0 F7 Ai x5) {r:Int}
    (h:d_spec_Gross fu r1 x5 = some r) :
    Calls Tryz.prog 224 #[.agg Ak.toArray,.agg Ai.toArray] w0 fun e w=>e = .returned (I r) ∧ Ext [] w0 w:=by
 refine enter (vs:=[_,_]) func224 z ntmps224 z fun a k=>?_
 have m:=St.start w0
 obtain ⟨v9,Bj,Ag,Bg,Af,Bf,rfl,rfl,Ac,Ad,Ab⟩:=Ar
 obtain ⟨Ay,_,rfl,rfl,Aj⟩:=Az
 unfold d_spec_Gross at h
 refine wr (s_box (cs:=[I r1.fWay,I r1.fPallet.fW,I r1.fPallet.fD,I r1.fPallet.fH,I r1.fPallet.fGram,I r1.fClasses,v9,Ag,I r1.fMaster,Af]) m k z z z z z z fun Ap Ba a k m e Ah=>s_box (cs:=[I x5.fType,I x5.fGroup,Ay]) m k z z z z z z fun Am Aq a k m e Ao=>pN 1 k z fun a k=>nn (wr (sv k z (r_ldB ta30 m 1 Ah 0 k z z z z z z) fun a k=>sv k z (r_fa fa33_0 k z z) fun a k=>sv k z (r_ldb t13 m 0 Ao 0 k z z z z z) fun a k=>oE h fun Aa Ax h=>?_)))
 refine cE k m call64 z z z (c_spec_TypeById fu _ _ (show rd _ _ [I r1.fWay,I r1.fPallet.fW,I r1.fPallet.fD,I r1.fPallet.fH,I r1.fPallet.fGram,I r1.fClasses,v9,Ag,I r1.fMaster,Af] (r1:Request) from ⟨_,_,_,_,_,_,z,z,(Enc.rd_agr Ac (m.a00 (Enc.rd_lt Ac))),(Enc.rd_agr Ad (m.a00 (Enc.rd_lt Ad))),(Enc.rd_agr Ab (m.a00 (Enc.rd_lt Ab)))⟩) Ax) fun Bm e a k m=>pN 3 k z fun a k=>s_alloc (cs:=[I 0,I 0,I 0,I 0,I 0,I 0,I 0]) m k zeroValue38 z z z z z fun Al Bl a k m e Bd=>?_
 refine s_stb (cs':=[I Aa.1.fId,I Aa.1.fW,I Aa.1.fH,I Aa.1.fD,I Aa.1.fTare,I Aa.1.fGram,I Aa.1.fCost]) sizeOf38 m 0 Bd 0 k z z z z z z z z z z z fun Av a k e m Bc=>pN 1 k z fun a k=>nn (c_cut (fun a w=>K 28 [(2,.pointer (some (⟨Ap,0,none⟩:Addr))),(3,.pointer (some (⟨Am,0,none⟩:Addr))),(5,.pointer (some (⟨Al,0,none⟩:Addr)))] a ∧ St [] w0 w [([Ap],Ba),([Am],Aq),([Al],Av)] ∧ d_spec_Gross_J1 fu r1 x5 Aa = some r) ?_ ?_)
 · rintro a Bk ⟨k,m,h⟩
   unfold d_spec_Gross_J1 at h
   refine wp_seq (d_go [] mixo m z fun Aw hMd=>?_)
   have m:=hMd
   have s:=Ext.refl ([]:List Nat) Aw
   refine dt k 0 z (by kernel_rfl) z s (fun _ _ _=>id) (fun w s=>r_fa fa38_4 k z z) fun a k=>dt k 1 z (by kernel_rfl) z s (fun _ _ _=>id) (fun w s=>r_ld1 t13 (r:=[]) (Bc.at ((hMd.step s).a 2 z) 4 1 z z z) k z z) fun a k=>dt k 2 z (by kernel_rfl) z s (fun _ _ _=>id) (fun w s=>r_ldA ta30 (Ah.at ((hMd.step s).a 0 z) 0 10 z z z) z k z z) fun a k=>dt k 3 z (by kernel_rfl) z s (fun _ _ _=>id) (fun w s=>r_fa fa33_2 k z z) fun a k=>dt k 4 z (by kernel_rfl) z s (fun _ _ _=>id) (fun w s=>r_ld1 t131 (r:=[]) (Ao.at ((hMd.step s).a 1 z) 2 1 z z z) k z z) fun a k=>d_one 5 (by kernel_rfl) z (oE h fun Be As h=>?_)
   refine cE k m call275 z z z (c_spec_GramOf fu _ _ (show rd _ _ [I r1.fWay,I r1.fPallet.fW,I r1.fPallet.fD,I r1.fPallet.fH,I r1.fPallet.fGram,I r1.fClasses,v9,Ag,I r1.fMaster,Af] (r1:Request) from ⟨_,_,_,_,_,_,z,z,(Enc.rd_agr Ac (m.a00 (Enc.rd_lt Ac))),(Enc.rd_agr Ad (m.a00 (Enc.rd_lt Ad))),(Enc.rd_agr Ab (m.a00 (Enc.rd_lt Ab)))⟩) (Enc.rd_agr Aj (m.a00 (Enc.rd_lt Aj))) As) fun Bh e a k m=>?_
   have s:=s.trans e (by simp)
   refine wpList_nil ⟨s,?_⟩
   refine dN [6,7] 2 z k (by kernel_rfl) z s (fun _ _ _ _ _=>id) fun a k=>d_done (by kernel_rfl) ((nm_then ?_))
   refine wp_ret (fS h k m z z)
 refine wr (sv k z (r_ldB ta30 m 2 Ah 0 k z z z z z z) fun a k=>oE h fun At Au h=>cE k m call19 z z z (c_spec_Class fu _ (show rd _ _ [I r1.fWay,I r1.fPallet.fW,I r1.fPallet.fD,I r1.fPallet.fH,I r1.fPallet.fGram,I r1.fClasses,v9,Ag,I r1.fMaster,Af] (r1:Request) from ⟨_,_,_,_,_,_,z,z,(Enc.rd_agr Ac (m.a00 (Enc.rd_lt Ac))),(Enc.rd_agr Ad (m.a00 (Enc.rd_lt Ad))),(Enc.rd_agr Ab (m.a00 (Enc.rd_lt Ab)))⟩) Au) fun Bi e a k m=>pN 2 k z fun a k=>bsplit (At != 0) (fun Ae=>?_) (fun Ae=>?_))
 · have h:=bif_t Ae h
   refine rB k 17 z Ae fun k=>pN 3 k z fun a k=>nn (wp_cond_true (k.ev z) (wr (pN 1 k z fun a k=>nn (wp_ret (rt_then ?_)))))
   refine fS h k m z z
 have h:=bif_f Ae h
 refine rB k 17 z Ae fun k=>pN 3 k z fun a k=>nn (cI h k z (fun Bb h=>?_) fun Bb h=>?_)
 · refine wr (pN 1 k z fun a k=>nn (wp_ret (rt_then ?_)))
   refine fS h k m z z
 refine wp_skip (nm_then ?_)
 exact ⟨k.keep [2,3,5] z,m.sel [2,1,0] z (by decide),h⟩
theorem c_spec_BoxOf (fu:Nat) {w0:World} (r1:Request) (x5:Carton) {Ap:List Value} {F3:List Nat} (Ay:rd w0 F3 Ap r1) {Al:List Value} {F7:List Nat} (Bg:rd w0 F7 Al x5) {r:Box}
    (h:d_spec_BoxOf fu r1 x5 = some r) :
    Calls Tryz.prog 133 #[.agg Ap.toArray,.agg Al.toArray] w0 fun e w=>e = .returned (.agg (Flat.e r).toArray) ∧ Ext [] w0 w:=by
 refine enter (vs:=[_,_]) func133 z ntmps133 z fun a k=>?_
 have m:=St.start w0
 obtain ⟨v9,Br,Ah,Bp,Af,Bo,rfl,rfl,Ac,Ad,Ab⟩:=Ay
 obtain ⟨Am,_,rfl,rfl,Ao⟩:=Bg
 unfold d_spec_BoxOf at h
 refine wr (s_box (cs:=[I r1.fWay,I r1.fPallet.fW,I r1.fPallet.fD,I r1.fPallet.fH,I r1.fPallet.fGram,I r1.fClasses,v9,Ah,I r1.fMaster,Af]) m k z z z z z z fun Au Bh a k m e Aj=>s_box (cs:=[I x5.fType,I x5.fGroup,Am]) m k z z z z z z fun As Av a k m e At=>s_alloc (cs:=[I 0,I 0,I 0,I 0]) m k zeroValue140 z z z z z fun Ag Ba a k m e Ai=>nn (wr (sv k z (r_ldB ta30 m 2 Aj 0 k z z z z z z) fun a k=>sv k z (r_fa fa33_0 k z z) fun a k=>sv k z (r_ldb t13 m 1 At 0 k z z z z z) fun a k=>oE h fun Aa Bb h=>?_)))
 refine cE k m call64 z z z (c_spec_TypeById fu _ _ (show rd _ _ [I r1.fWay,I r1.fPallet.fW,I r1.fPallet.fD,I r1.fPallet.fH,I r1.fPallet.fGram,I r1.fClasses,v9,Ah,I r1.fMaster,Af] (r1:Request) from ⟨_,_,_,_,_,_,z,z,(Enc.rd_agr Ac (m.a00 (Enc.rd_lt Ac))),(Enc.rd_agr Ad (m.a00 (Enc.rd_lt Ad))),(Enc.rd_agr Ab (m.a00 (Enc.rd_lt Ab)))⟩) Bb) fun Bu e a k m=>pN 3 k z fun a k=>s_alloc (cs:=[I 0,I 0,I 0,I 0,I 0,I 0,I 0]) m k zeroValue38 z z z z z fun Aq Bv a k m e Bj=>?_
 refine s_stb (cs':=[I Aa.1.fId,I Aa.1.fW,I Aa.1.fH,I Aa.1.fD,I Aa.1.fTare,I Aa.1.fGram,I Aa.1.fCost]) sizeOf38 m 0 Bj 0 k z z z z z z z z z z z fun Bd a k e m Ak=>pN 1 k z fun a k=>nn (c_cut (fun a w=>K 32 [(2,.pointer (some (⟨Au,0,none⟩:Addr))),(3,.pointer (some (⟨As,0,none⟩:Addr))),(4,.pointer (some (⟨Ag,0,none⟩:Addr))),(5,.pointer (some (⟨Aq,0,none⟩:Addr)))] a ∧ St [] w0 w [([Au],Bh),([As],Av),([Ag],Ba),([Aq],Bd)] ∧ d_spec_BoxOf_J1 fu r1 x5 Aa = some r) ?_ ?_)
 · rintro a Bn ⟨k,m,h⟩
   unfold d_spec_BoxOf_J1 at h
   refine wp_seq (d_go ([Ag]) mixo m z fun Aw hMd=>?_)
   have m:=hMd
   have s:=Ext.refl (([Ag]):List Nat) Aw
   refine dt k 0 z (by kernel_rfl) z s (fun _ _ _=>id) (fun w s=>r_fa fa38_1 k z z) fun a k=>dt k 1 z (by kernel_rfl) z s (fun _ _ _=>id) (fun w s=>r_ld1 t13 (r:=[]) (Ak.at (hMd.az 3 2 z z z s) 1 1 z z z) k z z) fun a k=>dt k 2 z (by kernel_rfl) z s (fun _ _ _=>id) (fun w s=>r_fa fa38_3 k z z) fun a k=>dt k 3 z (by kernel_rfl) z s (fun _ _ _=>id) (fun w s=>r_ld1 t13 (r:=[]) (Ak.at (hMd.az 3 2 z z z s) 3 1 z z z) k z z) fun a k=>dt k 4 z (by kernel_rfl) z s (fun _ _ _=>id) (fun w s=>r_fa fa38_2 k z z) fun a k=>dt k 5 z (by kernel_rfl) z s (fun _ _ _=>id) (fun w s=>r_ld1 t13 (r:=[]) (Ak.at (hMd.az 3 2 z z z s) 2 1 z z z) k z z) fun a k=>?_
   refine dt k 6 z (by kernel_rfl) z s (fun _ _ _=>id) (fun w s=>r_ldA ta30 (Aj.at (hMd.az 0 2 z z z s) 0 10 z z z) z k z z) fun a k=>dt k 7 z (by kernel_rfl) z s (fun _ _ _=>id) (fun w s=>r_ldA ta33 (At.at (hMd.az 1 2 z z z s) 0 3 z z z) z k z z) fun a k=>d_one 8 (by kernel_rfl) z (oE h fun Ar Ax h=>?_)
   refine cE k m call224 z z z (c_spec_Gross fu _ _ (show rd _ _ [I r1.fWay,I r1.fPallet.fW,I r1.fPallet.fD,I r1.fPallet.fH,I r1.fPallet.fGram,I r1.fClasses,v9,Ah,I r1.fMaster,Af] (r1:Request) from ⟨_,_,_,_,_,_,z,z,(Enc.rd_agr Ac (m.a00 (Enc.rd_lt Ac))),(Enc.rd_agr Ad (m.a00 (Enc.rd_lt Ad))),(Enc.rd_agr Ab (m.a00 (Enc.rd_lt Ab)))⟩) (show rd _ _ [I x5.fType,I x5.fGroup,Am] (x5:Carton) from ⟨_,_,z,z,(Enc.rd_agr Ao (m.a00 (Enc.rd_lt Ao)))⟩) Ax) fun Bl e a k m=>?_
   have s:=s.trans e (by simp)
   refine wpList_nil ⟨s,?_⟩
   refine dt k 9 z (by kernel_rfl) z s (fun _ _ _=>id) (fun w s=>r_build bt140 k (cs:=#[I Aa.1.fW,I Aa.1.fD,I Aa.1.fH,I Ar]) (ps:=[(0,.tmp 23),(1,.tmp 25),(2,.tmp 27),(3,.tmp 30)]) z z (by kernel_rfl)) fun a k=>d_one 10 (by kernel_rfl) z (s_stb (cs':=[I Aa.1.fW,I Aa.1.fD,I Aa.1.fH,I Ar]) sizeOf140 m 2 Ai 0 k z z z z z z z z z z z fun Bs a k e m Bk=>?_)
   have s:=s.trans e (fun y hy=>Or.inl hy)
   refine wpList_nil ⟨s,?_⟩
   refine d_done (by kernel_rfl) ((nm_then ?_))
   refine wp_ret ?_
   cases h
   exact finR1 k z (RV.cA k z ta140 (Bk.at (m.a 2 z) 0 4 z z z) z) ⟨z,m.ext⟩
 refine wr (sv k z (r_ldB ta30 m 3 Aj 0 k z z z z z z) fun a k=>oE h fun Bc Be h=>cE k m call19 z z z (c_spec_Class fu _ (show rd _ _ [I r1.fWay,I r1.fPallet.fW,I r1.fPallet.fD,I r1.fPallet.fH,I r1.fPallet.fGram,I r1.fClasses,v9,Ah,I r1.fMaster,Af] (r1:Request) from ⟨_,_,_,_,_,_,z,z,(Enc.rd_agr Ac (m.a00 (Enc.rd_lt Ac))),(Enc.rd_agr Ad (m.a00 (Enc.rd_lt Ad))),(Enc.rd_agr Ab (m.a00 (Enc.rd_lt Ab)))⟩) Be) fun Bq e a k m=>pN 2 k z fun a k=>bsplit (Bc != 0) (fun Ae=>?_) (fun Ae=>?_))
 · have h:=bif_t Ae h
   refine rB k 17 z Ae fun k=>pN 3 k z fun a k=>nn (wp_cond_true (k.ev z) (wr (sv k z (r_build bt140 k (cs:=#[I 0,I 0,I 0,I 0]) (ps:=[]) z z (by kernel_rfl)) fun a k=>s_stb (cs':=[I 0,I 0,I 0,I 0]) sizeOf140 m 1 Ai 0 k z z z z z z z z z z z fun Bt a k e m Bf=>nn (wp_ret (rt_then ?_)))))
   cases h
   exact finR1 k z (RV.cA k z ta140 (Bf.at (m.a 1 z) 0 4 z z z) z) ⟨z,m.ext⟩
 have h:=bif_f Ae h
 refine rB k 17 z Ae fun k=>pN 3 k z fun a k=>nn (cI h k z (fun Az h=>?_) fun Az h=>?_)
 · refine wr (sv k z (r_build bt140 k (cs:=#[I 0,I 0,I 0,I 0]) (ps:=[]) z z (by kernel_rfl)) fun a k=>s_stb (cs':=[I 0,I 0,I 0,I 0]) sizeOf140 m 1 Ai 0 k z z z z z z z z z z z fun Bm a k e m Bi=>nn (wp_ret (rt_then ?_)))
   cases h
   exact finR1 k z (RV.cA k z ta140 (Bi.at (m.a 1 z) 0 4 z z z) z) ⟨z,m.ext⟩
 refine wp_skip (nm_then ?_)
 exact ⟨k.keep [2,3,4,5] z,m.sel [3,2,1,0] z (by decide),h⟩
theorem c_spec_l12Known (fu:Nat) {w0:World} (b1:Box) (Aa:Spot)  {r:Bool}
    (h:d_spec_l12Known fu b1 Aa = some r) :
    Calls Tryz.prog 259 #[.agg (Flat.e (b1)).toArray,.agg (Flat.e (Aa)).toArray] w0 fun e w=>e = .returned (.bool (r)) ∧ Ext [] w0 w:=by
 refine enter (vs:=[_,_]) func259 z ntmps259 z fun a k=>?_
 have m:=St.start w0
 unfold d_spec_l12Known at h
 refine wr (s_box (cs:=[I b1.fW,I b1.fD,I b1.fH,I b1.fGram]) m k z z z z z z fun b3 w5 a k m e Ah=>s_box (cs:=[I Aa.fPallet,I Aa.fX,I Aa.fY,I Aa.fZ]) m k z z z z z z fun b6 w9 a k m e Ag=>pN 1 k z fun a k=>nn (wr (sv k z (r_fa fa140_0 k z z) fun a k=>sv k z (r_ldb t13 m 1 Ah 0 k z z z z z) fun a k=>oE h fun Aj At h=>cE k m call142 z z z (c_spec_l1In fu _ _ _  At) fun Ay e a k m=>pN 1 k z fun a k=>bsplit (Aj) (fun Af=>?_) (fun Af=>?_))))
 · have h:=bif_t Af h
   refine rB k 8 z Af fun k=>sv k z (r_fa fa140_1 k z z) fun a k=>sv k z (r_ldb t13 m 1 Ah 1 k z z z z z) fun a k=>oE h fun Aq Ai h=>cE k m call142 z z z (c_spec_l1In fu _ _ _  Ai) fun Az e a k m=>pN 2 k z fun a k=>bsplit (Aq) (fun Ac=>?_) (fun Ac=>?_)
   · have h:=bif_t Ac h
     refine rB k 13 z Ac fun k=>sv k z (r_fa fa140_2 k z z) fun a k=>sv k z (r_ldb t13 m 1 Ah 2 k z z z z z) fun a k=>oE h fun Am Ao h=>cE k m call142 z z z (c_spec_l1In fu _ _ _  Ao) fun Au e a k m=>pN 2 k z fun a k=>bsplit (Am) (fun Ae=>?_) (fun Ae=>?_)
     · have h:=bif_t Ae h
       refine rB k 18 z Ae fun k=>sv k z (r_fa fa139_1 k z z) fun a k=>sv k z (r_ldb t13 m 0 Ag 1 k z z z z z) fun a k=>oE h fun Ak As h=>cE k m call142 z z z (c_spec_l1In fu _ _ _  As) fun Av e a k m=>pN 2 k z fun a k=>bsplit (Ak) (fun Ab=>?_) (fun Ab=>?_)
       · have h:=bif_t Ab h
         refine rB k 23 z Ab fun k=>sv k z (r_fa fa139_2 k z z) fun a k=>sv k z (r_ldb t13 m 0 Ag 2 k z z z z z) fun a k=>oE h fun Ap Ar h=>cE k m call142 z z z (c_spec_l1In fu _ _ _  Ar) fun Aw e a k m=>pN 2 k z fun a k=>bsplit (Ap) (fun Ad=>?_) (fun Ad=>?_)
         · have h:=bif_t Ad h
           refine rB k 28 z Ad fun k=>sv k z (r_fa fa139_3 k z z) fun a k=>sv k z (r_ldb t13 m 0 Ag 3 k z z z z z) fun a k=>oE h fun Ba Al h=>cE k m call142 z z z (c_spec_l1In fu _ _ _  Al) fun Ax e a k m=>pN 2 k z fun a k=>?_
           have k:=k.keep [4] z
           refine nn (wp_ret (fS h k m z z))
         have h:=bif_f Ad h
         refine rB k 28 z Ad fun k=>pN 5 k z fun a k=>?_
         have k:=k.keep [4] z
         refine nn (wp_ret (fS h k m z z))
       have h:=bif_f Ab h
       refine rB k 23 z Ab fun k=>pN 10 k z fun a k=>?_
       have k:=k.keep [4] z
       refine nn (wp_ret (fS h k m z z))
     have h:=bif_f Ae h
     refine rB k 18 z Ae fun k=>pN 15 k z fun a k=>?_
     have k:=k.keep [4] z
     refine nn (wp_ret (fS h k m z z))
   have h:=bif_f Ac h
   refine rB k 13 z Ac fun k=>pN 20 k z fun a k=>?_
   have k:=k.keep [4] z
   refine nn (wp_ret (fS h k m z z))
 have h:=bif_f Af h
 refine rB k 8 z Af fun k=>pN 25 k z fun a k=>?_
 have k:=k.keep [4] z
 refine nn (wp_ret (fS h k m z z))
theorem c_spec_Within (fu:Nat) {w0:World} (p1:Pallet) (b2:Box) (Aa:Spot)  {r:Bool}
    (h:d_spec_Within fu p1 b2 Aa = some r) :
    Calls Tryz.prog 204 #[.agg (Flat.e (p1)).toArray,.agg (Flat.e (b2)).toArray,.agg (Flat.e (Aa)).toArray] w0 fun e w=>e = .returned (.bool (r)) ∧ Ext [] w0 w:=by
 refine enter (vs:=[_,_,_]) func204 z ntmps204 z fun a k=>?_
 have m:=St.start w0
 unfold d_spec_Within at h
 refine wr (s_box (cs:=[I p1.fW,I p1.fD,I p1.fH,I p1.fGram]) m k z z z z z z fun b4 w6 a k m e Aj=>s_box (cs:=[I b2.fW,I b2.fD,I b2.fH,I b2.fGram]) m k z z z z z z fun b7 w9 a k m e Ab=>s_box (cs:=[I Aa.fPallet,I Aa.fX,I Aa.fY,I Aa.fZ]) m k z z z z z z fun Ap Am a k m e Ai=>pN 1 k z fun a k=>nn (wr (sv k z (r_ldB ta140 m 1 Ab 0 k z z z z z z) fun a k=>sv k z (r_ldB ta139 m 0 Ai 0 k z z z z z z) fun a k=>oE h fun Ak Al h=>cE k m call259 z z z (c_spec_l12Known fu (b2:Box) (Aa:Spot)  Al) fun Ao e a k m=>pN 1 k z fun a k=>bsplit (Ak) (fun Ac=>?_) (fun Ac=>?_))))
 · have h:=bif_t Ac h
   refine rB k 10 z Ac fun k=>sv k z (r_fa fa140_0 k z z) fun a k=>sv k z (r_ldb t13 m 1 Ab 0 k z z z z z) fun a k=>pN 3 k z fun a k=>bsplit (decide (b2.fW > 0)) (fun Ah=>?_) (fun Ah=>?_)
   · have h:=bif_t Ah h
     refine rB k 15 z Ah fun k=>sv k z (r_fa fa140_1 k z z) fun a k=>sv k z (r_ldb t13 m 1 Ab 1 k z z z z z) fun a k=>pN 3 k z fun a k=>bsplit (decide (b2.fD > 0)) (fun Af=>?_) (fun Af=>?_)
     · have h:=bif_t Af h
       refine rB k 20 z Af fun k=>sv k z (r_fa fa140_2 k z z) fun a k=>sv k z (r_ldb t13 m 1 Ab 2 k z z z z z) fun a k=>pN 3 k z fun a k=>bsplit (decide (b2.fH > 0)) (fun Ad=>?_) (fun Ad=>?_)
       · have h:=bif_t Ad h
         refine rB k 25 z Ad fun k=>sv k z (r_fa fa139_1 k z z) fun a k=>sv k z (r_ldb t13 m 0 Ai 1 k z z z z z) fun a k=>sv k z (r_fa fa140_0 k z z) fun a k=>sv k z (r_ldb t13 m 1 Ab 0 k z z z z z) fun a k=>pN 1 k z fun a k=>sv k z (r_fa fa25_0 k z z) fun a k=>sv k z (r_ldb t13 m 2 Aj 0 k z z z z z) fun a k=>pN 3 k z fun a k=>bsplit (decide ((w64 (Aa.fX + b2.fW)) ≤ p1.fW)) (fun Ag=>?_) (fun Ag=>?_)
         · have h:=bif_t Ag h
           refine rB k 35 z Ag fun k=>sv k z (r_fa fa139_2 k z z) fun a k=>sv k z (r_ldb t13 m 0 Ai 2 k z z z z z) fun a k=>sv k z (r_fa fa140_1 k z z) fun a k=>sv k z (r_ldb t13 m 1 Ab 1 k z z z z z) fun a k=>pN 1 k z fun a k=>sv k z (r_fa fa25_1 k z z) fun a k=>sv k z (r_ldb t13 m 2 Aj 1 k z z z z z) fun a k=>pN 3 k z fun a k=>bsplit (decide ((w64 (Aa.fY + b2.fD)) ≤ p1.fD)) (fun Ae=>?_) (fun Ae=>?_)
           · have h:=bif_t Ae h
             refine rB k 45 z Ae fun k=>sv k z (r_fa fa139_3 k z z) fun a k=>sv k z (r_ldb t13 m 0 Ai 3 k z z z z z) fun a k=>sv k z (r_fa fa140_2 k z z) fun a k=>sv k z (r_ldb t13 m 1 Ab 2 k z z z z z) fun a k=>pN 1 k z fun a k=>sv k z (r_fa fa25_2 k z z) fun a k=>sv k z (r_ldb t13 m 2 Aj 2 k z z z z z) fun a k=>pN 3 k z fun a k=>?_
             have k:=k.keep [6] z
             refine nn (wp_ret (fS h k m z z))
           have h:=bif_f Ae h
           refine rB k 45 z Ae fun k=>pN 10 k z fun a k=>?_
           have k:=k.keep [6] z
           refine nn (wp_ret (fS h k m z z))
         have h:=bif_f Ag h
         refine rB k 35 z Ag fun k=>pN 20 k z fun a k=>?_
         have k:=k.keep [6] z
         refine nn (wp_ret (fS h k m z z))
       have h:=bif_f Ad h
       refine rB k 25 z Ad fun k=>pN 30 k z fun a k=>?_
       have k:=k.keep [6] z
       refine nn (wp_ret (fS h k m z z))
     have h:=bif_f Af h
     refine rB k 20 z Af fun k=>pN 35 k z fun a k=>?_
     have k:=k.keep [6] z
     refine nn (wp_ret (fS h k m z z))
   have h:=bif_f Ah h
   refine rB k 15 z Ah fun k=>pN 40 k z fun a k=>?_
   have k:=k.keep [6] z
   refine nn (wp_ret (fS h k m z z))
 have h:=bif_f Ac h
 refine rB k 10 z Ac fun k=>pN 45 k z fun a k=>?_
 have k:=k.keep [6] z
 refine nn (wp_ret (fS h k m z z))
theorem c_spec_l15Inside (fu:Nat) {w0:World} (r1:Request) (x5:Plan) {Al:List Value} {F3:List Nat} (Aw:rd w0 F3 Al r1) {Ak:List Value} {F7:List Nat} (Be:rd w0 F7 Ak x5) {r:Bool}
    (h:d_spec_l15Inside fu r1 x5 = some r) :
    Calls Tryz.prog 115 #[.agg Al.toArray,.agg Ak.toArray] w0 fun e w=>e = .returned (.bool (r)) ∧ Ext [] w0 w:=by
 refine enter (vs:=[_,_]) func115 z ntmps115 z fun a k=>?_
 have m:=St.start w0
 obtain ⟨v9,Bq,Ao,Bn,Ai,Bm,rfl,rfl,Ap,Aq,Ah⟩:=Aw
 obtain ⟨Bc,Bp,Av,Bo,rfl,rfl,Ab,Ae⟩:=Be
 unfold d_spec_l15Inside at h
 refine wr (s_box (cs:=[I r1.fWay,I r1.fPallet.fW,I r1.fPallet.fD,I r1.fPallet.fH,I r1.fPallet.fGram,I r1.fClasses,v9,Ao,I r1.fMaster,Ai]) m k z z z z z z fun Af Ay a k m e Am=>s_box (cs:=[Bc,Av]) m k z z z z z z fun Ar Bj a k m e Ad=>pN 1 k z fun a k=>nn (wp_seq (wr (pN 1 k z fun a k=>nn (wp_block (c_loop (fun n a w=>∃ (Aa:Int),K 29 [(2,.pointer (some (⟨Af,0,none⟩:Addr))),(3,.pointer (some (⟨Ar,0,none⟩:Addr))),(5,I Aa)] a ∧ St [] w0 w [([Af],Ay),([Ar],Bj)] ∧ d_spec_l15Inside_L1 fu r1 x5 n Aa = some r) ?_ ?_ fu _ _ ?_))))))
 · rintro a w ⟨_,_,_,h⟩
   exact nS h
 · rintro Bl a Bs ⟨Aa,k,m,h⟩
   rw [d_spec_l15Inside_L1_s] at h
   unfold d_spec_l15Inside_L1_B at h
   refine wp_seq (wr (pN 1 k z fun a k=>sv k z (r_fa fa74_0 k z z) fun a k=>sv k z (r_ldb t143 m 1 Ad 0 k z z z z z) fun a k=>sv k z (r_len (α:=Carton) Ab k underlying43 z z) fun a k=>pN 1 k z fun a k=>nn (cI h k z (fun Au h=>?_) fun Au h=>?_)))
   · refine wp_skip (nm_then ?_)
     refine wp_seq (wp_block (wp_seq (d_go [] mixo m z fun Bd hMd=>?_)))
     have m:=hMd
     have s:=Ext.refl ([]:List Nat) Bd
     refine dN [5,11] 2 z k (by kernel_rfl) z s (fun _ _ _ _ _=>id) fun a k=>dt k 0 z (by kernel_rfl) z s (fun _ _ _=>id) (fun w s=>r_fa fa30_1 k z z) fun a k=>dt k 1 z (by kernel_rfl) z s (fun _ _ _=>id) (fun w s=>r_ldA ta25 (Am.at ((hMd.step s).a 0 z) 1 4 z z z) z k z z) fun a k=>dt k 2 z (by kernel_rfl) z s (fun _ _ _=>id) (fun w s=>r_ldA ta30 (Am.at ((hMd.step s).a 0 z) 0 10 z z z) z k z z) fun a k=>dt k 3 z (by kernel_rfl) z s (fun _ _ _=>id) (fun w s=>r_fa fa74_0 k z z) fun a k=>dt k 4 z (by kernel_rfl) z s (fun _ _ _=>id) (fun w s=>r_ld1 t143 (r:=[]) (Ad.at ((hMd.step s).a 1 z) 0 1 z z z) k z z) fun a k=>oE h fun Ac As h=>?_
     refine dt k 6 z (by kernel_rfl) z s (fun _ _ _=>id) (fun w s=>r_ixa Ab As k ts43 z z z) fun a k=>?_
     obtain ⟨Bt,Bk,Br,Az,Bg,Bi⟩:=rd_get Ab (ix_some As).2.2
     obtain ⟨At,_,rfl,rfl,Aj⟩:=Az
     refine dt k 7 z (by kernel_rfl) z s (fun _ _ _=>id) (fun w s=>r_ldA ta33 (Bg.agr ((hMd.step s).a00 (Enc.rd_lt Ab)) Bi) z k z z) fun a k=>dt k 9 z (by kernel_rfl) z s (fun _ _ _=>id) (fun w s=>r_fa fa74_1 k z z) fun a k=>dt k 10 z (by kernel_rfl) z s (fun _ _ _=>id) (fun w s=>r_ld1 t172 (r:=[]) (Ad.at ((hMd.step s).a 1 z) 1 1 z z z) k z z) fun a k=>oE h fun Bh Ag h=>dt k 12 z (by kernel_rfl) z s (fun _ _ _=>id) (fun w s=>r_ixa Ae Ag k ts72 z z z) fun a k=>dt k 13 z (by kernel_rfl) z s (fun _ _ _=>id) (fun w s=>r_lde Ae ((hMd.step s).a00 (Enc.rd_lt Ae)) Ag ta139 k z z) fun a k=>d_one 8 (by kernel_rfl) z (oE h fun Ba Bb h=>?_)
     refine cE k m call133 z z z (c_spec_BoxOf fu _ _ (show rd _ _ [I r1.fWay,I r1.fPallet.fW,I r1.fPallet.fD,I r1.fPallet.fH,I r1.fPallet.fGram,I r1.fClasses,v9,Ao,I r1.fMaster,Ai] (r1:Request) from ⟨_,_,_,_,_,_,z,z,(Enc.rd_agr Ap (m.a00 (Enc.rd_lt Ap))),(Enc.rd_agr Aq (m.a00 (Enc.rd_lt Aq))),(Enc.rd_agr Ah (m.a00 (Enc.rd_lt Ah)))⟩) (show rd _ _ [I Ac.fType,I Ac.fGroup,At] (Ac:Carton) from ⟨_,_,z,z,(Enc.rd_agr Aj (m.a00 (Enc.rd_lt Aj)))⟩) Bb) fun Bw e a k m=>?_
     have s:=s.trans e (by simp)
     refine wpList_nil ⟨s,?_⟩
     refine d_one 14 (by kernel_rfl) z (oE h fun Bv Ax h=>cE k m call204 z z z (c_spec_Within fu (r1.fPallet:Pallet) (Ba:Box) (Bh:Spot)  Ax) fun Bu e a k m=>?_)
     have s:=s.trans e (by simp)
     refine wpList_nil ⟨s,?_⟩
     refine dN [15] 1 z k (by kernel_rfl) z s (fun _ _ _ _ _=>id) fun a k=>d_done (by kernel_rfl) ((nm_then ?_))
     refine cI h k z (fun Bf h=>?_) fun Bf h=>?_
     · refine wr (pN 1 k z fun a k=>nn (wp_ret (rt_block (rt_then (rt_then (rt_block (rt_then ?_)))))))
       refine fS h k m z z
     refine wp_skip (nm_block (nm_then ?_))
     refine wp_region_lit (pN 3 k z fun a k=>nn ?_)
     exact ⟨w64 (Aa + 1),k.keep [2,3,5] z,m.sel [0,1] z (by decide),h⟩
   refine wp_exit (ex_then (ex_then (ex_same (nm_then ?_))))
   refine wr (pN 1 k z fun a k=>nn (wp_ret (fS h k m z z)))
 exact ⟨0,k.keep [2,3,5] z,m.sel [1,0] z (by decide),h⟩
theorem c_spec_l12Cross (fu:Nat) {w0:World} (a1:Int) (Ac:Int) (b3:Int) (Ab:Int)  {r:Bool}
    (h:d_spec_l12Cross fu a1 Ac b3 Ab = some r) :
    Calls Tryz.prog 260 #[I a1,I Ac,I b3,I Ab] w0 fun e w=>e = .returned (.bool (r)) ∧ Ext [] w0 w:=by
 refine enter (vs:=[_,_,_,_]) func260 z ntmps260 z fun a k=>?_
 have m:=St.start w0
 unfold d_spec_l12Cross at h
 refine wr (pN 1 k z fun a k=>nn (wr (pN 6 k z fun a k=>bsplit (decide (a1 < (w64 (b3 + Ab)))) (fun Aa=>?_) (fun Aa=>?_))))
 · have h:=bif_t Aa h
   refine rB k 14 z Aa fun k=>pN 7 k z fun a k=>nn (wp_ret (fS h k m z z))
 have h:=bif_f Aa h
 refine rB k 14 z Aa fun k=>pN 7 k z fun a k=>nn (wp_ret (fS h k m z z))
theorem c_spec_Overlap (fu:Nat) {w0:World} (a1:Box) (Aa:Spot) (b3:Box) (t4:Spot)  {r:Bool}
    (h:d_spec_Overlap fu a1 Aa b3 t4 = some r) :
    Calls Tryz.prog 205 #[.agg (Flat.e (a1)).toArray,.agg (Flat.e (Aa)).toArray,.agg (Flat.e (b3)).toArray,.agg (Flat.e (t4)).toArray] w0 fun e w=>e = .returned (.bool (r)) ∧ Ext [] w0 w:=by
 refine enter (vs:=[_,_,_,_]) func205 z ntmps205 z fun a k=>?_
 have m:=St.start w0
 unfold d_spec_Overlap at h
 refine wr (s_box (cs:=[I a1.fW,I a1.fD,I a1.fH,I a1.fGram]) m k z z z z z z fun b5 w7 a k m e Ai=>s_box (cs:=[I Aa.fPallet,I Aa.fX,I Aa.fY,I Aa.fZ]) m k z z z z z z fun b8 Az a k m e Ad=>s_box (cs:=[I b3.fW,I b3.fD,I b3.fH,I b3.fGram]) m k z z z z z z fun Aw Bd a k m e Aj=>s_box (cs:=[I t4.fPallet,I t4.fX,I t4.fY,I t4.fZ]) m k z z z z z z fun Ay Bc a k m e Ac=>pN 1 k z fun a k=>nn (wr (sv k z (r_ldB ta140 m 3 Ai 0 k z z z z z z) fun a k=>sv k z (r_ldB ta139 m 2 Ad 0 k z z z z z z) fun a k=>oE h fun Ao Ak h=>?_)))
 refine cE k m call259 z z z (c_spec_l12Known fu (a1:Box) (Aa:Spot)  Ak) fun Ba e a k m=>pN 1 k z fun a k=>bsplit (Ao) (fun Ag=>?_) (fun Ag=>?_)
 · have h:=bif_t Ag h
   refine rB k 12 z Ag fun k=>sv k z (r_ldB ta140 m 1 Aj 0 k z z z z z z) fun a k=>sv k z (r_ldB ta139 m 0 Ac 0 k z z z z z z) fun a k=>oE h fun Al Am h=>cE k m call259 z z z (c_spec_l12Known fu (b3:Box) (t4:Spot)  Am) fun Au e a k m=>pN 2 k z fun a k=>bsplit (Al) (fun Ab=>?_) (fun Ab=>?_)
   · have h:=bif_t Ab h
     refine rB k 17 z Ab fun k=>sv k z (r_fa fa139_0 k z z) fun a k=>sv k z (r_ldb t13 m 2 Ad 0 k z z z z z) fun a k=>sv k z (r_fa fa139_0 k z z) fun a k=>sv k z (r_ldb t13 m 0 Ac 0 k z z z z z) fun a k=>pN 3 k z fun a k=>bsplit (Aa.fPallet == t4.fPallet) (fun Ae=>?_) (fun Ae=>?_)
     · have h:=bif_t Ae h
       refine rB k 24 z Ae fun k=>sv k z (r_fa fa139_1 k z z) fun a k=>sv k z (r_ldb t13 m 2 Ad 1 k z z z z z) fun a k=>sv k z (r_fa fa140_0 k z z) fun a k=>sv k z (r_ldb t13 m 3 Ai 0 k z z z z z) fun a k=>sv k z (r_fa fa139_1 k z z) fun a k=>sv k z (r_ldb t13 m 0 Ac 1 k z z z z z) fun a k=>sv k z (r_fa fa140_0 k z z) fun a k=>sv k z (r_ldb t13 m 1 Aj 0 k z z z z z) fun a k=>oE h fun At As h=>cE k m call260 z z z (c_spec_l12Cross fu _ _ _ _  As) fun Av e a k m=>pN 2 k z fun a k=>bsplit (At) (fun Af=>?_) (fun Af=>?_)
       · have h:=bif_t Af h
         refine rB k 35 z Af fun k=>sv k z (r_fa fa139_2 k z z) fun a k=>sv k z (r_ldb t13 m 2 Ad 2 k z z z z z) fun a k=>sv k z (r_fa fa140_1 k z z) fun a k=>sv k z (r_ldb t13 m 3 Ai 1 k z z z z z) fun a k=>sv k z (r_fa fa139_2 k z z) fun a k=>sv k z (r_ldb t13 m 0 Ac 2 k z z z z z) fun a k=>sv k z (r_fa fa140_1 k z z) fun a k=>sv k z (r_ldb t13 m 1 Aj 1 k z z z z z) fun a k=>oE h fun Aq Ar h=>cE k m call260 z z z (c_spec_l12Cross fu _ _ _ _  Ar) fun Ax e a k m=>pN 2 k z fun a k=>bsplit (Aq) (fun Ah=>?_) (fun Ah=>?_)
         · have h:=bif_t Ah h
           refine rB k 46 z Ah fun k=>sv k z (r_fa fa139_3 k z z) fun a k=>sv k z (r_ldb t13 m 2 Ad 3 k z z z z z) fun a k=>sv k z (r_fa fa140_2 k z z) fun a k=>sv k z (r_ldb t13 m 3 Ai 2 k z z z z z) fun a k=>sv k z (r_fa fa139_3 k z z) fun a k=>sv k z (r_ldb t13 m 0 Ac 3 k z z z z z) fun a k=>sv k z (r_fa fa140_2 k z z) fun a k=>sv k z (r_ldb t13 m 1 Aj 2 k z z z z z) fun a k=>oE h fun Be Ap h=>cE k m call260 z z z (c_spec_l12Cross fu _ _ _ _  Ap) fun Bb e a k m=>pN 2 k z fun a k=>?_
           have k:=k.keep [8] z
           refine nn (wp_ret (fS h k m z z))
         have h:=bif_f Ah h
         refine rB k 46 z Ah fun k=>pN 11 k z fun a k=>?_
         have k:=k.keep [8] z
         refine nn (wp_ret (fS h k m z z))
       have h:=bif_f Af h
       refine rB k 35 z Af fun k=>pN 22 k z fun a k=>?_
       have k:=k.keep [8] z
       refine nn (wp_ret (fS h k m z z))
     have h:=bif_f Ae h
     refine rB k 24 z Ae fun k=>pN 33 k z fun a k=>?_
     have k:=k.keep [8] z
     refine nn (wp_ret (fS h k m z z))
   have h:=bif_f Ab h
   refine rB k 17 z Ab fun k=>pN 40 k z fun a k=>?_
   have k:=k.keep [8] z
   refine nn (wp_ret (fS h k m z z))
 have h:=bif_f Ag h
 refine rB k 12 z Ag fun k=>pN 45 k z fun a k=>?_
 have k:=k.keep [8] z
 refine nn (wp_ret (fS h k m z z))
theorem c_spec_l15Apart (fu:Nat) {w0:World} (r1:Request) (x5:Plan) {Av:List Value} {F3:List Nat} (Bg:rd w0 F3 Av r1) {At:List Value} {F7:List Nat} (Bp:rd w0 F7 At x5) {r:Bool}
    (h:d_spec_l15Apart fu r1 x5 = some r) :
    Calls Tryz.prog 116 #[.agg Av.toArray,.agg At.toArray] w0 fun e w=>e = .returned (.bool (r)) ∧ Ext [] w0 w:=by
 refine enter (vs:=[_,_]) func116 z ntmps116 z fun a k=>?_
 have m:=St.start w0
 obtain ⟨v9,Ck,Am,Ca,Ak,Bz,rfl,rfl,Ah,Ai,Af⟩:=Bg
 obtain ⟨Bm,Ci,Ba,Cd,rfl,rfl,Aa,Ac⟩:=Bp
 unfold d_spec_l15Apart at h
 refine wr (s_box (cs:=[I r1.fWay,I r1.fPallet.fW,I r1.fPallet.fD,I r1.fPallet.fH,I r1.fPallet.fGram,I r1.fClasses,v9,Am,I r1.fMaster,Ak]) m k z z z z z z fun Ae As a k m e Aw=>s_box (cs:=[Bm,Ba]) m k z z z z z z fun Aj Ax a k m e Ad=>pN 1 k z fun a k=>nn (wp_seq (wr (pN 1 k z fun a k=>nn (wp_block (c_loop (fun n a w=>∃ (Ab:Int),K 44 [(2,.pointer (some (⟨Ae,0,none⟩:Addr))),(3,.pointer (some (⟨Aj,0,none⟩:Addr))),(5,I Ab)] a ∧ St [] w0 w [([Ae],As),([Aj],Ax)] ∧ d_spec_l15Apart_L2 fu r1 x5 n Ab = some r) ?_ ?_ fu _ _ ?_))))))
 · rintro a w ⟨_,_,_,h⟩
   exact nS h
 · rintro Bf a Cm ⟨Ab,k,m,h⟩
   rw [d_spec_l15Apart_L2_s] at h
   unfold d_spec_l15Apart_L2_B at h
   refine wp_seq (wr (pN 1 k z fun a k=>sv k z (r_fa fa74_0 k z z) fun a k=>sv k z (r_ldb t143 m 1 Ad 0 k z z z z z) fun a k=>sv k z (r_len (α:=Carton) Aa k underlying43 z z) fun a k=>pN 1 k z fun a k=>nn (cI h k z (fun Bq h=>?_) fun Bq h=>?_)))
   · refine wp_skip (nm_then ?_)
     refine wp_seq (wp_block (wr (pN 1 k z fun a k=>nn (wp_block (c_loop (fun n a w=>∃ (Ag:Int),K 44 [(2,.pointer (some (⟨Ae,0,none⟩:Addr))),(3,.pointer (some (⟨Aj,0,none⟩:Addr))),(5,I Ab),(6,I Ag)] a ∧ St [] w0 w [([Ae],As),([Aj],Ax)] ∧ d_spec_l15Apart_L1 fu (d_spec_l15Apart_L2 fu r1 x5 Bf) r1 x5 Ab n Ag = some r) ?_ ?_ fu _ _ ?_)))))
     · rintro a w ⟨_,_,_,h⟩
       exact nS h
     · rintro Cj a Cp ⟨Ag,k,m,h⟩
       rw [d_spec_l15Apart_L1_s] at h
       unfold d_spec_l15Apart_L1_B at h
       refine wp_seq (wr (pN 3 k z fun a k=>nn (cI h k z (fun Bt h=>?_) fun Bt h=>?_)))
       · refine wp_skip (nm_then ?_)
         refine wp_seq (wp_block (wp_seq (d_go [] mixo m z fun Bn hMd=>?_)))
         have m:=hMd
         have s:=Ext.refl ([]:List Nat) Bn
         refine dN [3,9,15,21] 4 z k (by kernel_rfl) z s (fun _ _ _ _ _=>id) fun a k=>dt k 0 z (by kernel_rfl) z s (fun _ _ _=>id) (fun w s=>r_ldA ta30 (Aw.at ((hMd.step s).a 0 z) 0 10 z z z) z k z z) fun a k=>dt k 1 z (by kernel_rfl) z s (fun _ _ _=>id) (fun w s=>r_fa fa74_0 k z z) fun a k=>dt k 2 z (by kernel_rfl) z s (fun _ _ _=>id) (fun w s=>r_ld1 t143 (r:=[]) (Ad.at ((hMd.step s).a 1 z) 0 1 z z z) k z z) fun a k=>oE h fun Al Ar h=>dt k 4 z (by kernel_rfl) z s (fun _ _ _=>id) (fun w s=>r_ixa Aa Ar k ts43 z z z) fun a k=>?_
         obtain ⟨Ch,Ce,Cc,Bx,Bd,Bk⟩:=rd_get Aa (ix_some Ar).2.2
         obtain ⟨Bj,_,rfl,rfl,Au⟩:=Bx
         refine dt k 5 z (by kernel_rfl) z s (fun _ _ _=>id) (fun w s=>r_ldA ta33 (Bd.agr ((hMd.step s).a00 (Enc.rd_lt Aa)) Bk) z k z z) fun a k=>dt k 7 z (by kernel_rfl) z s (fun _ _ _=>id) (fun w s=>r_fa fa74_1 k z z) fun a k=>dt k 8 z (by kernel_rfl) z s (fun _ _ _=>id) (fun w s=>r_ld1 t172 (r:=[]) (Ad.at ((hMd.step s).a 1 z) 1 1 z z z) k z z) fun a k=>oE h fun Br Aq h=>dt k 10 z (by kernel_rfl) z s (fun _ _ _=>id) (fun w s=>r_ixa Ac Aq k ts72 z z z) fun a k=>dt k 11 z (by kernel_rfl) z s (fun _ _ _=>id) (fun w s=>r_lde Ac ((hMd.step s).a00 (Enc.rd_lt Ac)) Aq ta139 k z z) fun a k=>dt k 12 z (by kernel_rfl) z s (fun _ _ _=>id) (fun w s=>r_ldA ta30 (Aw.at ((hMd.step s).a 0 z) 0 10 z z z) z k z z) fun a k=>?_
         refine dt k 13 z (by kernel_rfl) z s (fun _ _ _=>id) (fun w s=>r_fa fa74_0 k z z) fun a k=>dt k 14 z (by kernel_rfl) z s (fun _ _ _=>id) (fun w s=>r_ld1 t143 (r:=[]) (Ad.at ((hMd.step s).a 1 z) 0 1 z z z) k z z) fun a k=>oE h fun Ao Ap h=>dt k 16 z (by kernel_rfl) z s (fun _ _ _=>id) (fun w s=>r_ixa Aa Ap k ts43 z z z) fun a k=>?_
         obtain ⟨Cb,Cl,Cf,Bh,Bs,Bo⟩:=rd_get Aa (ix_some Ap).2.2
         obtain ⟨Bl,_,rfl,rfl,Ay⟩:=Bh
         refine dt k 17 z (by kernel_rfl) z s (fun _ _ _=>id) (fun w s=>r_ldA ta33 (Bs.agr ((hMd.step s).a00 (Enc.rd_lt Aa)) Bo) z k z z) fun a k=>dt k 19 z (by kernel_rfl) z s (fun _ _ _=>id) (fun w s=>r_fa fa74_1 k z z) fun a k=>dt k 20 z (by kernel_rfl) z s (fun _ _ _=>id) (fun w s=>r_ld1 t172 (r:=[]) (Ad.at ((hMd.step s).a 1 z) 1 1 z z z) k z z) fun a k=>oE h fun Bv Az h=>dt k 22 z (by kernel_rfl) z s (fun _ _ _=>id) (fun w s=>r_ixa Ac Az k ts72 z z z) fun a k=>dt k 23 z (by kernel_rfl) z s (fun _ _ _=>id) (fun w s=>r_lde Ac ((hMd.step s).a00 (Enc.rd_lt Ac)) Az ta139 k z z) fun a k=>d_one 6 (by kernel_rfl) z (oE h fun Bw Bb h=>?_)
         refine cE k m call133 z z z (c_spec_BoxOf fu _ _ (show rd _ _ [I r1.fWay,I r1.fPallet.fW,I r1.fPallet.fD,I r1.fPallet.fH,I r1.fPallet.fGram,I r1.fClasses,v9,Am,I r1.fMaster,Ak] (r1:Request) from ⟨_,_,_,_,_,_,z,z,(Enc.rd_agr Ah (m.a00 (Enc.rd_lt Ah))),(Enc.rd_agr Ai (m.a00 (Enc.rd_lt Ai))),(Enc.rd_agr Af (m.a00 (Enc.rd_lt Af)))⟩) (show rd _ _ [I Al.fType,I Al.fGroup,Bj] (Al:Carton) from ⟨_,_,z,z,(Enc.rd_agr Au (m.a00 (Enc.rd_lt Au)))⟩) Bb) fun Cg e a k m=>?_
         have s:=s.trans e (by simp)
         refine wpList_nil ⟨s,?_⟩
         refine d_one 18 (by kernel_rfl) z (oE h fun Be Bi h=>cE k m call133 z z z (c_spec_BoxOf fu _ _ (show rd _ _ [I r1.fWay,I r1.fPallet.fW,I r1.fPallet.fD,I r1.fPallet.fH,I r1.fPallet.fGram,I r1.fClasses,v9,Am,I r1.fMaster,Ak] (r1:Request) from ⟨_,_,_,_,_,_,z,z,(Enc.rd_agr Ah (m.a00 (Enc.rd_lt Ah))),(Enc.rd_agr Ai (m.a00 (Enc.rd_lt Ai))),(Enc.rd_agr Af (m.a00 (Enc.rd_lt Af)))⟩) (show rd _ _ [I Ao.fType,I Ao.fGroup,Bl] (Ao:Carton) from ⟨_,_,z,z,(Enc.rd_agr Ay (m.a00 (Enc.rd_lt Ay)))⟩) Bi) fun Co e a k m=>?_)
         have s:=s.trans e (by simp)
         refine wpList_nil ⟨s,?_⟩
         refine d_one 24 (by kernel_rfl) z (oE h fun By Bc h=>cE k m call205 z z z (c_spec_Overlap fu (Bw:Box) (Br:Spot) (Be:Box) (Bv:Spot)  Bc) fun Cn e a k m=>?_)
         have s:=s.trans e (by simp)
         refine wpList_nil ⟨s,?_⟩
         refine d_done (by kernel_rfl) ?_
         have k:=k.keep [2,3,5,6,43] z
         refine (nm_then ?_)
         refine cI h k z (fun Bu h=>?_) fun Bu h=>?_
         · refine wr (pN 1 k z fun a k=>nn (wp_ret (rt_block (rt_then (rt_then (rt_block (rt_block (rt_then (rt_then (rt_block (rt_then ?_)))))))))))
           refine fS h k m z z
         refine wp_skip (nm_block (nm_then ?_))
         refine wp_region_lit (pN 3 k z fun a k=>nn ?_)
         exact ⟨w64 (Ag + 1),k.keep [2,3,5,6] z,m.sel [0,1] z (by decide),h⟩
       refine wp_exit (ex_then (ex_then (ex_same (nm_block (nm_then ?_)))))
       refine wp_region_lit (pN 3 k z fun a k=>nn ?_)
       exact ⟨w64 (Ab + 1),k.keep [2,3,5] z,m.sel [0,1] z (by decide),h⟩
     exact ⟨0,k.keep [2,3,5,6] z,m.sel [0,1] z (by decide),h⟩
   refine wp_exit (ex_then (ex_then (ex_same (nm_then ?_))))
   refine wr (pN 1 k z fun a k=>nn (wp_ret (fS h k m z z)))
 exact ⟨0,k.keep [2,3,5] z,m.sel [1,0] z (by decide),h⟩
theorem c_spec_l1Max (fu:Nat) {w0:World} (a1:Int) (b2:Int)  {r:Int}
    (h:d_spec_l1Max fu a1 b2 = some r) :
    Calls Tryz.prog 227 #[I a1,I b2] w0 fun e w=>e = .returned (I r) ∧ Ext [] w0 w:=by
 refine enter (vs:=[_,_]) func227 z ntmps227 z fun a k=>?_
 have m:=St.start w0
 unfold d_spec_l1Max at h
 refine wr (pN 1 k z fun a k=>nn (wp_seq (wr (pN 3 k z fun a k=>nn (cI h k z (fun Aa h=>?_) fun Aa h=>?_)))))
 · refine wr (pN 2 k z fun a k=>nn (wp_ret (rt_then ?_)))
   refine fS h k m z z
 refine wp_skip (nm_then ?_)
 refine wr (pN 2 k z fun a k=>nn (wp_ret (fS h k m z z)))
theorem c_spec_Pallets (fu:Nat) {w0:World} (Ae:List Spot) {v2:Value} {F3:List Nat} (Aa:rd w0 F3 [v2] Ae) {r:Int}
    (h:d_spec_Pallets fu Ae = some r) :
    Calls Tryz.prog 146 #[v2] w0 fun e w=>e = .returned (I r) ∧ Ext [] w0 w:=by
 refine enter (vs:=[_]) func146 z ntmps146 z fun a k=>?_
 have m:=St.start w0
 unfold d_spec_Pallets at h
 refine wr (pN 1 k z fun a k=>nn (wr (pN 1 k z fun a k=>nn (wp_seq (wr (pN 1 k z fun a k=>nn (wp_block (c_loop (fun n a w=>∃ (Ac:Int) (Ab:Int),K 26 [(0,v2),(3,I Ac),(4,I Ab)] a ∧ St [] w0 w [] ∧ d_spec_Pallets_L1 fu Ae n Ac Ab = some r) ?_ ?_ fu _ _ ?_))))))))
 · rintro a w ⟨_,_,_,_,h⟩
   exact nS h
 · rintro Ag a At ⟨Ac,Ab,k,m,h⟩
   rw [d_spec_Pallets_L1_s] at h
   unfold d_spec_Pallets_L1_B at h
   refine wp_seq (wr (pN 2 k z fun a k=>sv k z (r_len (α:=Spot) Aa k underlying72 z z) fun a k=>pN 1 k z fun a k=>nn (cI h k z (fun Ah h=>?_) fun Ah h=>?_)))
   · refine wp_skip (nm_then ?_)
     refine c_cut (fun a w=>∃ (Af:Int),K 26 [(0,v2),(3,I Af),(4,I Ab)] a ∧ St [] w0 w [] ∧ d_spec_Pallets_J1 fu (d_spec_Pallets_L1 fu Ae Ag) Ab Af = some r) ?_ ?_
     · rintro a Aq ⟨Af,k,m,h⟩
       unfold d_spec_Pallets_J1 at h
       refine wp_region_lit (pN 3 k z fun a k=>nn ?_)
       exact ⟨Af,w64 (Ab + 1),k.keep [0,3,4] z,m.sel [] z (by decide),h⟩
     refine wp_block (wr (pN 2 k z fun a k=>oE h fun Ap Ad h=>sv k z (r_ixa Aa Ad k ts72 z z z) fun a k=>sv k z (r_fa fa139_0 k z z) fun a k=>sv k z (r_lde1 Aa (m.a00 (Enc.rd_lt Aa)) Ad 0 t13 k z z z z) fun a k=>oE h fun Ar Ak h=>cE k m call142 z z z (c_spec_l1In fu _ _ _  Ak) fun Ao e a k m=>nn (cI h k z (fun Al h=>?_) fun Al h=>?_)))
     · refine wp_region_lit (pN 3 k z fun a k=>oE h fun As Am h=>sv k z (r_ixa Aa Ad k ts72 z z z) fun a k=>sv k z (r_fa fa139_0 k z z) fun a k=>sv k z (r_lde1 Aa (m.a00 (Enc.rd_lt Aa)) Ad 0 t13 k z z z z) fun a k=>pN 1 k z fun a k=>oE h fun Ai Aj h=>cE k m call227 z z z (c_spec_l1Max fu _ _  Aj) fun Au e a k m=>pN 1 k z fun a k=>wpList_nil (nm_block (nm_then ?_)))
       exact ⟨Ai,k.keep [0,3,4] z,m.sel [] z (by decide),h⟩
     refine wp_skip (nm_block (nm_then ?_))
     exact ⟨Ac,k.keep [0,3,4] z,m.sel [] z (by decide),h⟩
   refine wp_exit (ex_then (ex_then (ex_same (nm_then ?_))))
   refine wr (pN 2 k z fun a k=>nn (wp_ret (fS h k m z z)))
 exact ⟨0,0,k.keep [0,3,4] z,m.sel [] z (by decide),h⟩
theorem c_spec_OnPallet (fu:Nat) {w0:World} (x1:Plan) (Ab:Int) {Au:List Value} {F3:List Nat} (Ax:rd w0 F3 Au x1) {r:(List Int)}
    (h:d_spec_OnPallet fu x1 Ab = some r) :
    Calls Tryz.prog 206 #[.agg Au.toArray,I Ab] w0 fun e w=>∃ (v0:Value) (G0:List Nat),e = .returned (v0) ∧ Ext [] w0 w ∧ ow w G0 [v0] r ∧ (∀ b ∈ G0,w0.heap.size ≤ b):=by
 refine enter (vs:=[_,_]) func206 z ntmps206 z fun a k=>?_
 have m:=St.start w0
 obtain ⟨v6,F7,v8,F9,rfl,rfl,As,Ai⟩:=Ax
 unfold d_spec_OnPallet at h
 refine wr (s_box (cs:=[v6,v8]) m k z z z z z z fun Ad Aq a k m e Ao=>pN 1 k z fun a k=>nn (wr (s_bs (cs:=[]) (ps:=[]) te31 m k z z z z z z z (by decide) z (by exact (List.forall_mem_nil _)) fun Ar Bi Bq a k m e Ba=>?_)))
 have Bf:=ow_bx Ba ([]:List Int) z z z
 refine pN 1 k z fun a k=>nn (wp_seq (wr (pN 1 k z fun a k=>nn (wp_block (c_loop (fun n a w=>∃ (Af:List Int) (Ae:Value) (Ac:List Nat) (Ah:World) (Aa:Int),K 37 [(1,I Ab),(2,.pointer (some (⟨Ad,0,none⟩:Addr))),(5,Ae),(6,I Aa)] a ∧ St [] w0 w [([Ad],Aq),(Ac,Ah)] ∧ ow Ah Ac [Ae] Af ∧ d_spec_OnPallet_L1 fu x1 Ab n Af Aa = some r) ?_ ?_ fu _ _ ?_)))))
 · rintro a w ⟨_,_,_,_,_,_,_,_,h⟩
   exact nS h
 · rintro Av a Bo ⟨Af,Ae,Ac,Ah,Aa,k,m,Ap,h⟩
   rw [d_spec_OnPallet_L1_s] at h
   unfold d_spec_OnPallet_L1_B at h
   refine c_cut (fun a w=>K 37 [(1,I Ab),(2,.pointer (some (⟨Ad,0,none⟩:Addr))),(5,Ae),(6,I Aa)] a ∧ St [] w0 w [([Ad],Aq),(Ac,Ah)] ∧ d_spec_OnPallet_J2 fu (d_spec_OnPallet_L1 fu x1 Ab Av) x1 Ab Af Aa = some r) ?_ ?_
   · rintro a Br ⟨k,m,h⟩
     unfold d_spec_OnPallet_J2 at h
     refine c_cut (fun a w=>∃ (Am:List Int) (Ak:Value) (Aj:List Nat) (Al:World),K 37 [(1,I Ab),(2,.pointer (some (⟨Ad,0,none⟩:Addr))),(5,Ak),(6,I Aa)] a ∧ St [] w0 w [([Ad],Aq),(Aj,Al)] ∧ ow Al Aj [Ak] Am ∧ d_spec_OnPallet_J1 fu (d_spec_OnPallet_L1 fu x1 Ab Av) Aa Am = some r) ?_ ?_
     · rintro a Bm ⟨Am,Ak,Aj,Al,k,m,Aw,h⟩
       unfold d_spec_OnPallet_J1 at h
       refine wp_region_lit (pN 3 k z fun a k=>nn ?_)
       exact ⟨Am,Ak,Aj,Al,w64 (Aa + 1),k.keep [1,2,5,6] z,m.sel [0,1] z (by decide),Aw,h⟩
     refine wp_block (wr (sv k z (r_fa fa74_1 k z z) fun a k=>sv k z (r_ldb t172 m 0 Ao 1 k z z z z z) fun a k=>pN 1 k z fun a k=>oE h fun Bp At h=>sv k z (r_ixa Ai At k ts72 z z z) fun a k=>sv k z (r_fa fa139_0 k z z) fun a k=>sv k z (r_lde1 Ai (m.a00 (Enc.rd_lt Ai)) At 0 t13 k z z z z) fun a k=>pN 2 k z fun a k=>nn (cI h k z (fun Ay h=>?_) fun Ay h=>?_)))
     · refine wp_region_lit (pN 2 k z fun a k=>s_bs (cs:=[I Aa]) (ps:=[(0,.tmp 33)]) te31 m k z z z z z z z (by decide) z (by exact (List.forall_mem_cons.2 ⟨z,(List.forall_mem_nil _)⟩)) fun Bl Bn Bs a k m e Bd=>?_)
       have Bj:=ow_bx Bd ([Aa]:List Int) z z z
       refine oE h fun Bk Bb h=>s_appF Bb te31 z m 2 Ap (News.rd (Enc.rd_agr (Enc.ow_rd Bj) (m.a 0 z))) z z k z z z z z z z fun Bc Be Bh a k e m Bg=>pN 1 k z fun a k=>wpList_nil (nm_block (nm_then ?_))
       exact ⟨Bk,Bc,Be,Bh,k.keep [1,2,5,6] z,m.sel [1,2] z (by decide),Bg,h⟩
     refine wp_skip (nm_block (nm_then ?_))
     exact ⟨Af,Ae,Ac,Ah,k.keep [1,2,5,6] z,m.sel [0,1] z (by decide),Ap,h⟩
   refine wr (pN 1 k z fun a k=>sv k z (r_fa fa74_0 k z z) fun a k=>sv k z (r_ldb t143 m 0 Ao 0 k z z z z z) fun a k=>sv k z (r_len (α:=Carton) As k underlying43 z z) fun a k=>pN 2 k z fun a k=>bsplit (decide (Aa < ((x1.fCartons.length:Int)))) (fun Ag=>?_) (fun Ag=>?_))
   · have h:=bif_t Ag h
     refine rB k 13 z Ag fun k=>sv k z (r_fa fa74_0 k z z) fun a k=>sv k z (r_ldb t143 m 0 Ao 0 k z z z z z) fun a k=>sv k z (r_len (α:=Carton) As k underlying43 z z) fun a k=>sv k z (r_fa fa74_1 k z z) fun a k=>sv k z (r_ldb t172 m 0 Ao 1 k z z z z z) fun a k=>sv k z (r_len (α:=Spot) Ai k underlying72 z z) fun a k=>pN 2 k z fun a k=>nn (cI h k z (fun Az h=>?_) fun Az h=>?_)
     · refine wp_skip (nm_then ?_)
       exact ⟨k.keep [1,2,5,6] z,m.sel [0,1] z (by decide),h⟩
     refine wp_exit (ex_then (ex_then (ex_same (nm_then ?_))))
     refine wr (pN 2 k z fun a k=>nn (wp_ret ?_))
     cases h
     exact finR1 k z (RV.tmp k z) ⟨_,Ac,z,m.ext,(Enc.ow_agr Ap (m.a 1 z)),(m.fresh 1 z)⟩
   have h:=bif_f Ag h
   refine rB k 13 z Ag fun k=>pN 8 k z fun a k=>nn (wp_cond_false (k.ev z) (wp_exit (ex_then (ex_then (ex_same (nm_then ?_))))))
   refine wr (pN 2 k z fun a k=>nn (wp_ret ?_))
   cases h
   exact finR1 k z (RV.tmp k z) ⟨_,Ac,z,m.ext,(Enc.ow_agr Ap (m.a 1 z)),(m.fresh 1 z)⟩
 exact ⟨([]:List Int),(.slice (some ⟨Ar,0,none⟩) 0 0),[Ar],Bi,0,k.keep [1,2,5,6] z,m.sel [1,0] z (by decide),Bf,h⟩
theorem c_spec_PalletGram (fu:Nat) {w0:World} (r1:Request) (x5:Plan) (Ay:Int) {At:List Value} {F3:List Nat} (Bb:rd w0 F3 At r1) {Al:List Value} {F7:List Nat} (Bk:rd w0 F7 Al x5) {r:Int}
    (h:d_spec_PalletGram fu r1 x5 Ay = some r) :
    Calls Tryz.prog 207 #[.agg At.toArray,.agg Al.toArray,I Ay] w0 fun e w=>e = .returned (I r) ∧ Ext [] w0 w:=by
 refine enter (vs:=[_,_,_]) func207 z ntmps207 z fun a k=>?_
 have m:=St.start w0
 obtain ⟨Ag,Br,Am,By,Ak,Ca,rfl,rfl,Aw,Ah,Av⟩:=Bb
 obtain ⟨Ao,Cc,Au,Bz,rfl,rfl,Ab,Ar⟩:=Bk
 unfold d_spec_PalletGram at h
 refine wr (s_box (cs:=[I r1.fWay,I r1.fPallet.fW,I r1.fPallet.fD,I r1.fPallet.fH,I r1.fPallet.fGram,I r1.fClasses,Ag,Am,I r1.fMaster,Ak]) m k z z z z z z fun Aq Bh a k m e Be=>s_box (cs:=[Ao,Au]) m k z z z z z z fun Ap Bq a k m e Aj=>pN 1 k z fun a k=>nn (wr (pN 1 k z fun a k=>nn (wr (sv k z (r_ldB ta74 m 0 Aj 0 k z z z z z z) fun a k=>pN 1 k z fun a k=>oE h fun Bf Bm h=>s_call k call206 z z z z z (c_spec_OnPallet fu _ _ (show rd _ _ [Ao,Au] (x5:Plan) from ⟨_,_,_,_,z,z,(Enc.rd_agr Ab (m.a00 (Enc.rd_lt Ab))),(Enc.rd_agr Ar (m.a00 (Enc.rd_lt Ar)))⟩) Bm) fun Bu Bc hR=>?_)))))
 obtain ⟨Bo,Ai,rfl,e,Aa,Ba⟩:=hR
 refine ⟨_,z,fun a k=>?_⟩
 have m:=m.new e Ai (fun b hb=>⟨Ba b hb,Enc.rd_lt (Enc.ow_rd Aa) b hb⟩) (Enc.ow_nd Aa)
 refine pN 1 k z fun a k=>nn (wp_seq (wr (pN 1 k z fun a k=>nn (wp_block (c_loop (fun n a w=>∃ (Ac:Int) (Ad:Int),K 32 [(3,.pointer (some (⟨Aq,0,none⟩:Addr))),(4,.pointer (some (⟨Ap,0,none⟩:Addr))),(7,I Ac),(8,Bo),(9,I Ad)] a ∧ St [] w0 w [([Aq],Bh),([Ap],Bq),(Ai,Bc)] ∧ d_spec_PalletGram_L1 fu r1 x5 Bf n Ac Ad = some r) ?_ ?_ fu _ _ ?_)))))
 · rintro a w ⟨_,_,_,_,h⟩
   exact nS h
 · rintro Bs a Bt ⟨Ac,Ad,k,m,h⟩
   rw [d_spec_PalletGram_L1_s] at h
   unfold d_spec_PalletGram_L1_B at h
   refine wp_seq (wr (pN 2 k z fun a k=>sv k z (r_len (α:=Int) (Enc.ow_rd Aa) k underlying31 z z) fun a k=>pN 1 k z fun a k=>nn (cI h k z (fun Bg h=>?_) fun Bg h=>?_)))
   · refine wp_skip (nm_then ?_)
     refine wp_seq (wp_block (d_go [] mixo m z fun Bd hMd=>?_))
     have m:=hMd
     have s:=Ext.refl ([]:List Nat) Bd
     refine dN [0,4,5] 3 z k (by kernel_rfl) z s (fun _ _ _ _ _=>id) fun a k=>dt k 1 z (by kernel_rfl) z s (fun _ _ _=>id) (fun w s=>r_ldA ta30 (Be.at ((hMd.step s).a 0 z) 0 10 z z z) z k z z) fun a k=>dt k 2 z (by kernel_rfl) z s (fun _ _ _=>id) (fun w s=>r_fa fa74_0 k z z) fun a k=>dt k 3 z (by kernel_rfl) z s (fun _ _ _=>id) (fun w s=>r_ld1 t143 (r:=[]) (Aj.at ((hMd.step s).a 1 z) 0 1 z z z) k z z) fun a k=>oE h fun Cb As h=>dt k 6 z (by kernel_rfl) z s (fun _ _ _=>id) (fun w s=>r_ixa (Enc.ow_rd Aa) As k ts31 z z z) fun a k=>dt k 7 z (by kernel_rfl) z s (fun _ _ _=>id) (fun w s=>r_lde1 (Enc.ow_rd Aa) ((hMd.step s).a 2 z) As 0 t13 k z z z z) fun a k=>oE h fun Ae Ax h=>?_
     refine dt k 8 z (by kernel_rfl) z s (fun _ _ _=>id) (fun w s=>r_ixa Ab Ax k ts43 z z z) fun a k=>?_
     obtain ⟨Bv,Bx,Cd,Bn,Bj,Bl⟩:=rd_get Ab (ix_some Ax).2.2
     obtain ⟨Bi,_,rfl,rfl,Af⟩:=Bn
     refine dt k 9 z (by kernel_rfl) z s (fun _ _ _=>id) (fun w s=>r_ldA ta33 (Bj.agr ((hMd.step s).a00 (Enc.rd_lt Ab)) Bl) z k z z) fun a k=>d_one 10 (by kernel_rfl) z (oE h fun Bp Az h=>cE k m call224 z z z (c_spec_Gross fu _ _ (show rd _ _ [I r1.fWay,I r1.fPallet.fW,I r1.fPallet.fD,I r1.fPallet.fH,I r1.fPallet.fGram,I r1.fClasses,Ag,Am,I r1.fMaster,Ak] (r1:Request) from ⟨_,_,_,_,_,_,z,z,(Enc.rd_agr Aw (m.a00 (Enc.rd_lt Aw))),(Enc.rd_agr Ah (m.a00 (Enc.rd_lt Ah))),(Enc.rd_agr Av (m.a00 (Enc.rd_lt Av)))⟩) (show rd _ _ [I Ae.fType,I Ae.fGroup,Bi] (Ae:Carton) from ⟨_,_,z,z,(Enc.rd_agr Af (m.a00 (Enc.rd_lt Af)))⟩) Az) fun Bw e a k m=>?_)
     have s:=s.trans e (by simp)
     refine wpList_nil ⟨s,?_⟩
     refine dN [11,12] 2 z k (by kernel_rfl) z s (fun _ _ _ _ _=>id) fun a k=>d_done (by kernel_rfl) ((nm_block (nm_then ?_)))
     refine wp_region_lit (pN 3 k z fun a k=>nn ?_)
     exact ⟨w64 (Ac + Bp),w64 (Ad + 1),k.keep [3,4,7,8,9] z,m.sel [0,1,2] z (by decide),h⟩
   refine wp_exit (ex_then (ex_then (ex_same (nm_then ?_))))
   refine wr (pN 2 k z fun a k=>nn (wp_ret (fS h k m z z)))
 exact ⟨0,0,k.keep [3,4,7,8,9] z,m.sel [2,1,0] z (by decide),h⟩
theorem c_spec_l15Pallets (fu:Nat) {w0:World} (r1:Request) (x5:Plan) {Ax:List Value} {F3:List Nat} (Bo:rd w0 F3 Ax r1) {Au:List Value} {F7:List Nat} (Br:rd w0 F7 Au x5) {r:Bool}
    (h:d_spec_l15Pallets fu r1 x5 = some r) :
    Calls Tryz.prog 117 #[.agg Ax.toArray,.agg Au.toArray] w0 fun e w=>e = .returned (.bool (r)) ∧ Ext [] w0 w:=by
 refine enter (vs:=[_,_]) func117 z ntmps117 z fun a k=>?_
 have m:=St.start w0
 obtain ⟨v9,Cb,Av,By,At,Cw,rfl,rfl,Bc,Bd,Ay⟩:=Bo
 obtain ⟨Aq,Ca,Am,Bz,rfl,rfl,Ab,Ag⟩:=Br
 unfold d_spec_l15Pallets at h
 refine wr (s_box (cs:=[I r1.fWay,I r1.fPallet.fW,I r1.fPallet.fD,I r1.fPallet.fH,I r1.fPallet.fGram,I r1.fClasses,v9,Av,I r1.fMaster,At]) m k z z z z z z fun Ac Ak a k m e Bb=>s_box (cs:=[Aq,Am]) m k z z z z z z fun Ad Al a k m e Ah=>pN 1 k z fun a k=>nn (wr (sv k z (r_fa fa74_1 k z z) fun a k=>sv k z (r_ldb t172 m 0 Ah 1 k z z z z z) fun a k=>oE h fun Af Bl h=>cE k m call146 z z z (c_spec_Pallets fu _ (Enc.rd_agr Ag (m.a00 (Enc.rd_lt Ag))) Bl) fun Cx e a k m=>pN 1 k z fun a k=>nn (wp_seq (wr (pN 1 k z fun a k=>nn (wp_block ?_)))))))
 refine c_loop (fun n a w=>∃ (Aa:Int),K 57 [(2,.pointer (some (⟨Ac,0,none⟩:Addr))),(3,.pointer (some (⟨Ad,0,none⟩:Addr))),(5,I Af),(6,I Aa)] a ∧ St [] w0 w [([Ac],Ak),([Ad],Al)] ∧ d_spec_l15Pallets_L2 fu r1 x5 Af n Aa = some r) ?_ ?_ fu _ _ ?_
 · rintro a w ⟨_,_,_,h⟩
   exact nS h
 · rintro Ao a Cc ⟨Aa,k,m,h⟩
   rw [d_spec_l15Pallets_L2_s] at h
   unfold d_spec_l15Pallets_L2_B at h
   refine wp_seq (wr (pN 3 k z fun a k=>nn (cI h k z (fun Bu h=>?_) fun Bu h=>?_)))
   · refine wp_skip (nm_then ?_)
     refine c_cut (fun a w=>K 57 [(2,.pointer (some (⟨Ac,0,none⟩:Addr))),(3,.pointer (some (⟨Ad,0,none⟩:Addr))),(5,I Af),(6,I Aa)] a ∧ St [] w0 w [([Ac],Ak),([Ad],Al)] ∧ d_spec_l15Pallets_J1 fu (d_spec_l15Pallets_L2 fu r1 x5 Af Ao) Aa = some r) ?_ ?_
     · rintro a Cj ⟨k,m,h⟩
       unfold d_spec_l15Pallets_J1 at h
       refine wp_region_lit (pN 3 k z fun a k=>nn ?_)
       exact ⟨w64 (Aa + 1),k.keep [2,3,5,6] z,m.sel [0,1] z (by decide),h⟩
     refine wp_block (wr (sv k z (r_ldB ta74 m 1 Ah 0 k z z z z z z) fun a k=>pN 1 k z fun a k=>oE h fun Ap Bw h=>s_call k call206 z z z z z (c_spec_OnPallet fu _ _ (show rd _ _ [Aq,Am] (x5:Plan) from ⟨_,_,_,_,z,z,(Enc.rd_agr Ab (m.a00 (Enc.rd_lt Ab))),(Enc.rd_agr Ag (m.a00 (Enc.rd_lt Ag)))⟩) Bw) fun Ch As hR=>?_))
     obtain ⟨Aw,Ar,rfl,e,Ae,Bq⟩:=hR
     refine ⟨_,z,fun a k=>?_⟩
     have m:=m.new e Ar (fun b hb=>⟨Bq b hb,Enc.rd_lt (Enc.ow_rd Ae) b hb⟩) (Enc.ow_nd Ae)
     refine pN 1 k z fun a k=>nn (c_cut (fun a w=>K 57 [(2,.pointer (some (⟨Ac,0,none⟩:Addr))),(3,.pointer (some (⟨Ad,0,none⟩:Addr))),(5,I Af),(6,I Aa),(7,Aw)] a ∧ St [] w0 w [([Ac],Ak),([Ad],Al),(Ar,As)] ∧ d_spec_l15Pallets_J2 fu (d_spec_l15Pallets_L2 fu r1 x5 Af Ao) x5 Aa Ap = some r) ?_ ?_)
     · rintro a Cr ⟨k,m,h⟩
       unfold d_spec_l15Pallets_J2 at h
       refine wr (pN 1 k z fun a k=>nn (wp_block (c_loop (fun n a w=>∃ (Aj:Int),K 57 [(2,.pointer (some (⟨Ac,0,none⟩:Addr))),(3,.pointer (some (⟨Ad,0,none⟩:Addr))),(5,I Af),(6,I Aa),(7,Aw),(8,I Aj)] a ∧ St [] w0 w [([Ac],Ak),([Ad],Al),(Ar,As)] ∧ d_spec_l15Pallets_L1 fu (d_spec_l15Pallets_L2 fu r1 x5 Af Ao) x5 Aa Ap n Aj = some r) ?_ ?_ fu _ _ ?_)))
       · rintro a w ⟨_,_,_,h⟩
         exact nS h
       · rintro Cm a Cd ⟨Aj,k,m,h⟩
         rw [d_spec_l15Pallets_L1_s] at h
         unfold d_spec_l15Pallets_L1_B at h
         refine wp_seq (wr (pN 2 k z fun a k=>sv k z (r_len (α:=Int) (Enc.ow_rd Ae) k underlying31 z z) fun a k=>pN 1 k z fun a k=>nn (cI h k z (fun Bp h=>?_) fun Bp h=>?_)))
         · refine wp_skip (nm_then ?_)
           refine wp_seq (wp_block (wp_seq (d_go [] mixo m z fun Bi hMd=>?_)))
           have m:=hMd
           have s:=Ext.refl ([]:List Nat) Bi
           refine dN [2,3,11] 3 z k (by kernel_rfl) z s (fun _ _ _ _ _=>id) fun a k=>dt k 0 z (by kernel_rfl) z s (fun _ _ _=>id) (fun w s=>r_fa fa74_0 k z z) fun a k=>dt k 1 z (by kernel_rfl) z s (fun _ _ _=>id) (fun w s=>r_ld1 t143 (r:=[]) (Ah.at ((hMd.step s).a 1 z) 0 1 z z z) k z z) fun a k=>oE h fun Cf Be h=>dt k 4 z (by kernel_rfl) z s (fun _ _ _=>id) (fun w s=>r_ixa (Enc.ow_rd Ae) Be k ts31 z z z) fun a k=>dt k 5 z (by kernel_rfl) z s (fun _ _ _=>id) (fun w s=>r_lde1 (Enc.ow_rd Ae) ((hMd.step s).a 2 z) Be 0 t13 k z z z z) fun a k=>oE h fun Cn Ba h=>dt k 6 z (by kernel_rfl) z s (fun _ _ _=>id) (fun w s=>r_ixa Ab Ba k ts43 z z z) fun a k=>?_
           refine dt k 7 z (by kernel_rfl) z s (fun _ _ _=>id) (fun w s=>r_fa fa33_1 k z z) fun a k=>?_
           obtain ⟨Cv,Cz,Ci,Bs,Bj,Bh⟩:=rd_get Ab (ix_some Ba).2.2
           obtain ⟨Ct,_,rfl,rfl,Ce⟩:=Bs
           refine dt k 8 z (by kernel_rfl) z s (fun _ _ _=>id) (fun w s=>r_ld1 t13 ((Bj.agr ((hMd.step s).a00 (Enc.rd_lt Ab)) Bh).fld 1 1 (Nat.le_of_ble_eq_true z)) k z z) fun a k=>dt k 9 z (by kernel_rfl) z s (fun _ _ _=>id) (fun w s=>r_fa fa74_0 k z z) fun a k=>dt k 10 z (by kernel_rfl) z s (fun _ _ _=>id) (fun w s=>r_ld1 t143 (r:=[]) (Ah.at ((hMd.step s).a 1 z) 0 1 z z z) k z z) fun a k=>oE h fun Ck Bf h=>dt k 12 z (by kernel_rfl) z s (fun _ _ _=>id) (fun w s=>r_ixa (Enc.ow_rd Ae) Bf k ts31 z z z) fun a k=>dt k 13 z (by kernel_rfl) z s (fun _ _ _=>id) (fun w s=>r_lde1 (Enc.ow_rd Ae) ((hMd.step s).a 2 z) Bf 0 t13 k z z z z) fun a k=>oE h fun Cg Az h=>?_
           refine dt k 14 z (by kernel_rfl) z s (fun _ _ _=>id) (fun w s=>r_ixa Ab Az k ts43 z z z) fun a k=>dt k 15 z (by kernel_rfl) z s (fun _ _ _=>id) (fun w s=>r_fa fa33_1 k z z) fun a k=>?_
           obtain ⟨Co,Cu,Cy,Bt,Bk,Bx⟩:=rd_get Ab (ix_some Az).2.2
           obtain ⟨Cs,_,rfl,rfl,Cp⟩:=Bt
           refine dt k 16 z (by kernel_rfl) z s (fun _ _ _=>id) (fun w s=>r_ld1 t13 ((Bk.agr ((hMd.step s).a00 (Enc.rd_lt Ab)) Bx).fld 1 1 (Nat.le_of_ble_eq_true z)) k z z) fun a k=>dN [17] 1 z k (by kernel_rfl) z s (fun _ _ _ _ _=>id) fun a k=>d_done (by kernel_rfl) ((nm_then ?_))
           refine cI h k z (fun Bg h=>?_) fun Bg h=>?_
           · refine wr (pN 1 k z fun a k=>nn (wp_ret (rt_block (rt_then (rt_then (rt_block (rt_block (rt_then (rt_then (rt_block (rt_then ?_)))))))))))
             refine fS h k m z z
           refine wp_skip (nm_block (nm_then ?_))
           refine wp_region_lit (pN 3 k z fun a k=>?_)
           have k:=k.keep [2,3,5,6,7,8] z
           refine nn ?_
           exact ⟨w64 (Aj + 1),k.keep [2,3,5,6,7,8] z,m.sel [0,1,2] z (by decide),h⟩
         refine wp_exit (ex_then (ex_then (ex_same (nm_block (nm_then ?_)))))
         exact ⟨k.keep [2,3,5,6] z,m.sel [0,1] z (by decide),h⟩
       exact ⟨1,k.keep [2,3,5,6,7,8] z,m.sel [0,1,2] z (by decide),h⟩
     refine wp_seq (d_go [] mixo m z fun Bm hMd=>?_)
     have m:=hMd
     have s:=Ext.refl ([]:List Nat) Bm
     refine dN [0] 1 z k (by kernel_rfl) z s (fun _ _ _ _ _=>id) fun a k=>dt k 1 z (by kernel_rfl) z s (fun _ _ _=>id) (fun w s=>r_len (α:=Int) (Enc.ow_rd Ae) k underlying31 z z) fun a k=>dN [2,3] 2 z k (by kernel_rfl) z s (fun _ _ _ _ _=>id) fun a k=>bsplit (((Ap.length:Int)) == 0) (fun Ai=>?_) (fun Ai=>?_)
     · have h:=bif_t Ai h
       refine rB k 23 z Ai fun k=>dN [4,5,6,7,8,9,10,11,12] 9 z k (by kernel_rfl) z s (fun _ _ _ _ _=>id) fun a k=>d_done (by kernel_rfl) ((nm_then ?_))
       refine wp_cond_true (k.ev z) (wr (pN 1 k z fun a k=>nn (wp_ret (rt_then (rt_block (rt_then (rt_then (rt_block (rt_then ?_)))))))))
       refine fS h k m z z
     have h:=bif_f Ai h
     refine rB k 23 z Ai fun k=>dN [6] 1 z k (by kernel_rfl) z s (fun _ _ _ _ _=>id) fun a k=>dt k 4 z (by kernel_rfl) z s (fun _ _ _=>id) (fun w s=>r_ldA ta30 (Bb.at ((hMd.step s).a 1 z) 0 10 z z z) z k z z) fun a k=>dt k 5 z (by kernel_rfl) z s (fun _ _ _=>id) (fun w s=>r_ldA ta74 (Ah.at ((hMd.step s).a 2 z) 0 2 z z z) z k z z) fun a k=>dt k 8 z (by kernel_rfl) z s (fun _ _ _=>id) (fun w s=>r_fa fa30_1 k z z) fun a k=>dt k 9 z (by kernel_rfl) z s (fun _ _ _=>id) (fun w s=>r_fa fa25_3 k z z) fun a k=>dt k 10 z (by kernel_rfl) z s (fun _ _ _=>id) (fun w s=>r_ld1 t13 (r:=[]) (Bb.at ((hMd.step s).a 1 z) 4 1 z z z) k z z) fun a k=>d_one 7 (by kernel_rfl) z (oE h fun Cl Bv h=>?_)
     refine cE k m call207 z z z (c_spec_PalletGram fu _ _ _ (show rd _ _ [I r1.fWay,I r1.fPallet.fW,I r1.fPallet.fD,I r1.fPallet.fH,I r1.fPallet.fGram,I r1.fClasses,v9,Av,I r1.fMaster,At] (r1:Request) from ⟨_,_,_,_,_,_,z,z,(Enc.rd_agr Bc (m.a00 (Enc.rd_lt Bc))),(Enc.rd_agr Bd (m.a00 (Enc.rd_lt Bd))),(Enc.rd_agr Ay (m.a00 (Enc.rd_lt Ay)))⟩) (show rd _ _ [Aq,Am] (x5:Plan) from ⟨_,_,_,_,z,z,(Enc.rd_agr Ab (m.a00 (Enc.rd_lt Ab))),(Enc.rd_agr Ag (m.a00 (Enc.rd_lt Ag)))⟩) Bv) fun Cq e a k m=>?_
     have s:=s.trans e (by simp)
     refine wpList_nil ⟨s,?_⟩
     refine dN [11,12] 2 z k (by kernel_rfl) z s (fun _ _ _ _ _=>id) fun a k=>d_done (by kernel_rfl) ((nm_then ?_))
     refine cI h k z (fun Bn h=>?_) fun Bn h=>?_
     · refine wr (pN 1 k z fun a k=>nn (wp_ret (rt_then (rt_block (rt_then (rt_then (rt_block (rt_then ?_))))))))
       refine fS h k m z z
     refine wp_skip (nm_then ?_)
     exact ⟨k.keep [2,3,5,6,7] z,m.sel [1,2,0] z (by decide),h⟩
   refine wp_exit (ex_then (ex_then (ex_same (nm_then ?_))))
   refine wr (pN 1 k z fun a k=>nn (wp_ret (fS h k m z z)))
 exact ⟨0,k.keep [2,3,5,6] z,m.sel [1,0] z (by decide),h⟩
theorem c_spec_Check (fu:Nat) {w0:World} (r1:Request) (x5:Plan) {Aq:List Value} {F3:List Nat} (Av:rd w0 F3 Aq r1) {Ap:List Value} {F7:List Nat} (Bh:rd w0 F7 Ap x5) {r:Int}
    (h:d_spec_Check fu r1 x5 = some r) :
    Calls Tryz.prog 39 #[.agg Aq.toArray,.agg Ap.toArray] w0 fun e w=>e = .returned (I r) ∧ Ext [] w0 w:=by
 refine enter (vs:=[_,_]) func39 z ntmps39 z fun a k=>?_
 have m:=St.start w0
 obtain ⟨v9,Co,Aj,Ca,Ah,By,rfl,rfl,Ad,Ae,Ac⟩:=Av
 obtain ⟨Ag,Cn,Af,Cd,rfl,rfl,Ab,Aa⟩:=Bh
 unfold d_spec_Check at h
 refine wr (s_box (cs:=[I r1.fWay,I r1.fPallet.fW,I r1.fPallet.fD,I r1.fPallet.fH,I r1.fPallet.fGram,I r1.fClasses,v9,Aj,I r1.fMaster,Ah]) m k z z z z z z fun Ao Ay a k m e Ak=>s_box (cs:=[Ag,Af]) m k z z z z z z fun Ar Br a k m e Ai=>pN 1 k z fun a k=>nn (wp_seq (wr (sv k z (r_ldB ta30 m 1 Ak 0 k z z z z z z) fun a k=>oE h fun Cm Bi h=>?_))))
 refine cE k m call19 z z z (c_spec_Class fu _ (show rd _ _ [I r1.fWay,I r1.fPallet.fW,I r1.fPallet.fD,I r1.fPallet.fH,I r1.fPallet.fGram,I r1.fClasses,v9,Aj,I r1.fMaster,Ah] (r1:Request) from ⟨_,_,_,_,_,_,z,z,(Enc.rd_agr Ad (m.a00 (Enc.rd_lt Ad))),(Enc.rd_agr Ae (m.a00 (Enc.rd_lt Ae))),(Enc.rd_agr Ac (m.a00 (Enc.rd_lt Ac)))⟩) Bi) fun Bz e a k m=>pN 1 k z fun a k=>nn (cI h k z (fun Bl h=>?_) fun Bl h=>?_)
 · refine wr (pN 1 k z fun a k=>nn (wp_ret (rt_then ?_)))
   refine fS h k m z z
 refine wp_skip (nm_then ?_)
 refine c_cut (fun a w=>K 54 [(2,.pointer (some (⟨Ao,0,none⟩:Addr))),(3,.pointer (some (⟨Ar,0,none⟩:Addr)))] a ∧ St [] w0 w [([Ao],Ay),([Ar],Br)] ∧ d_spec_Check_J1 fu r1 x5 = some r) ?_ ?_
 · rintro a Cs ⟨k,m,h⟩
   unfold d_spec_Check_J1 at h
   refine wr (sv k z (r_ldB ta30 m 0 Ak 0 k z z z z z z) fun a k=>oE h fun Bw Bm h=>s_call k call86 z z z z z (c_spec_l6Units fu _ (show rd _ _ [I r1.fWay,I r1.fPallet.fW,I r1.fPallet.fD,I r1.fPallet.fH,I r1.fPallet.fGram,I r1.fClasses,v9,Aj,I r1.fMaster,Ah] (r1:Request) from ⟨_,_,_,_,_,_,z,z,(Enc.rd_agr Ad (m.a00 (Enc.rd_lt Ad))),(Enc.rd_agr Ae (m.a00 (Enc.rd_lt Ae))),(Enc.rd_agr Ac (m.a00 (Enc.rd_lt Ac)))⟩) Bm) fun Ct Bt hR=>?_)
   obtain ⟨Ci,At,rfl,e,Am,Bg⟩:=hR
   refine ⟨_,z,fun a k=>?_⟩
   have m:=m.new e At (fun b hb=>⟨Bg b hb,Enc.rd_lt (Enc.ow_rd Am) b hb⟩) (Enc.ow_nd Am)
   refine pN 1 k z fun a k=>nn (wp_seq (wp_block (wr (pN 1 k z fun a k=>sv k z (r_ldB ta74 m 2 Ai 0 k z z z z z z) fun a k=>oE h fun Cf Bs h=>cE k m call111 z z z (c_spec_l15Units fu _ _ (Enc.rd_agr (Enc.ow_rd Am) (m.a 0 z)) (show rd _ _ [Ag,Af] (x5:Plan) from ⟨_,_,_,_,z,z,(Enc.rd_agr Ab (m.a00 (Enc.rd_lt Ab))),(Enc.rd_agr Aa (m.a00 (Enc.rd_lt Aa)))⟩) Bs) fun Bv e a k m=>pN 2 k z fun a k=>nn (cI h k z (fun Bk h=>?_) fun Bk h=>?_)))))
   · refine wr (pN 1 k z fun a k=>nn (wp_ret (rt_block (rt_then ?_))))
     refine fS h k m z z
   refine wr (sv k z (r_ldB ta30 m 1 Ak 0 k z z z z z z) fun a k=>sv k z (r_ldB ta74 m 2 Ai 0 k z z z z z z) fun a k=>oE h fun Bu Az h=>cE k m call112 z z z (c_spec_l15Holds fu _ _ (show rd _ _ [I r1.fWay,I r1.fPallet.fW,I r1.fPallet.fD,I r1.fPallet.fH,I r1.fPallet.fGram,I r1.fClasses,v9,Aj,I r1.fMaster,Ah] (r1:Request) from ⟨_,_,_,_,_,_,z,z,(Enc.rd_agr Ad (m.a00 (Enc.rd_lt Ad))),(Enc.rd_agr Ae (m.a00 (Enc.rd_lt Ae))),(Enc.rd_agr Ac (m.a00 (Enc.rd_lt Ac)))⟩) (show rd _ _ [Ag,Af] (x5:Plan) from ⟨_,_,_,_,z,z,(Enc.rd_agr Ab (m.a00 (Enc.rd_lt Ab))),(Enc.rd_agr Aa (m.a00 (Enc.rd_lt Aa)))⟩) Az) fun Cb e a k m=>pN 2 k z fun a k=>nn (cI h k z (fun Aw h=>?_) fun Aw h=>?_))
   · refine wr (pN 1 k z fun a k=>nn (wp_ret (rt_block (rt_then ?_))))
     refine fS h k m z z
   refine wr (sv k z (r_ldB ta30 m 1 Ak 0 k z z z z z z) fun a k=>pN 1 k z fun a k=>sv k z (r_ldB ta74 m 2 Ai 0 k z z z z z z) fun a k=>oE h fun Cv As h=>cE k m call113 z z z (c_spec_l15Group fu _ _ _ (show rd _ _ [I r1.fWay,I r1.fPallet.fW,I r1.fPallet.fD,I r1.fPallet.fH,I r1.fPallet.fGram,I r1.fClasses,v9,Aj,I r1.fMaster,Ah] (r1:Request) from ⟨_,_,_,_,_,_,z,z,(Enc.rd_agr Ad (m.a00 (Enc.rd_lt Ad))),(Enc.rd_agr Ae (m.a00 (Enc.rd_lt Ae))),(Enc.rd_agr Ac (m.a00 (Enc.rd_lt Ac)))⟩) (Enc.rd_agr (Enc.ow_rd Am) (m.a 0 z)) (show rd _ _ [Ag,Af] (x5:Plan) from ⟨_,_,_,_,z,z,(Enc.rd_agr Ab (m.a00 (Enc.rd_lt Ab))),(Enc.rd_agr Aa (m.a00 (Enc.rd_lt Aa)))⟩) As) fun Cc e a k m=>?_)
   refine pN 2 k z fun a k=>nn (cI h k z (fun Bd h=>?_) fun Bd h=>?_)
   · refine wr (pN 1 k z fun a k=>nn (wp_ret (rt_block (rt_then ?_))))
     refine fS h k m z z
   refine wr (sv k z (r_ldB ta30 m 1 Ak 0 k z z z z z z) fun a k=>sv k z (r_ldB ta74 m 2 Ai 0 k z z z z z z) fun a k=>oE h fun Cp Bj h=>cE k m call114 z z z (c_spec_l15Cheap fu _ _ (show rd _ _ [I r1.fWay,I r1.fPallet.fW,I r1.fPallet.fD,I r1.fPallet.fH,I r1.fPallet.fGram,I r1.fClasses,v9,Aj,I r1.fMaster,Ah] (r1:Request) from ⟨_,_,_,_,_,_,z,z,(Enc.rd_agr Ad (m.a00 (Enc.rd_lt Ad))),(Enc.rd_agr Ae (m.a00 (Enc.rd_lt Ae))),(Enc.rd_agr Ac (m.a00 (Enc.rd_lt Ac)))⟩) (show rd _ _ [Ag,Af] (x5:Plan) from ⟨_,_,_,_,z,z,(Enc.rd_agr Ab (m.a00 (Enc.rd_lt Ab))),(Enc.rd_agr Aa (m.a00 (Enc.rd_lt Aa)))⟩) Bj) fun Cu e a k m=>pN 2 k z fun a k=>nn (cI h k z (fun Bp h=>?_) fun Bp h=>?_))
   · refine wr (pN 1 k z fun a k=>?_)
     have k:=k.keep [4] z
     refine nn (wp_ret (rt_block (rt_then ?_)))
     refine fS h k m z z
   refine wr (sv k z (r_ldB ta30 m 1 Ak 0 k z z z z z z) fun a k=>sv k z (r_ldB ta74 m 2 Ai 0 k z z z z z z) fun a k=>oE h fun Cj Bq h=>cE k m call115 z z z (c_spec_l15Inside fu _ _ (show rd _ _ [I r1.fWay,I r1.fPallet.fW,I r1.fPallet.fD,I r1.fPallet.fH,I r1.fPallet.fGram,I r1.fClasses,v9,Aj,I r1.fMaster,Ah] (r1:Request) from ⟨_,_,_,_,_,_,z,z,(Enc.rd_agr Ad (m.a00 (Enc.rd_lt Ad))),(Enc.rd_agr Ae (m.a00 (Enc.rd_lt Ae))),(Enc.rd_agr Ac (m.a00 (Enc.rd_lt Ac)))⟩) (show rd _ _ [Ag,Af] (x5:Plan) from ⟨_,_,_,_,z,z,(Enc.rd_agr Ab (m.a00 (Enc.rd_lt Ab))),(Enc.rd_agr Aa (m.a00 (Enc.rd_lt Aa)))⟩) Bq) fun Bx e a k m=>pN 2 k z fun a k=>?_)
   have k:=k.keep [2,3,39] z
   refine nn (cI h k z (fun Bf h=>?_) fun Bf h=>?_)
   · refine wr (pN 1 k z fun a k=>nn (wp_ret (rt_block (rt_then ?_))))
     refine fS h k m z z
   refine wr (sv k z (r_ldB ta30 m 1 Ak 0 k z z z z z z) fun a k=>sv k z (r_ldB ta74 m 2 Ai 0 k z z z z z z) fun a k=>oE h fun Ce Ax h=>cE k m call116 z z z (c_spec_l15Apart fu _ _ (show rd _ _ [I r1.fWay,I r1.fPallet.fW,I r1.fPallet.fD,I r1.fPallet.fH,I r1.fPallet.fGram,I r1.fClasses,v9,Aj,I r1.fMaster,Ah] (r1:Request) from ⟨_,_,_,_,_,_,z,z,(Enc.rd_agr Ad (m.a00 (Enc.rd_lt Ad))),(Enc.rd_agr Ae (m.a00 (Enc.rd_lt Ae))),(Enc.rd_agr Ac (m.a00 (Enc.rd_lt Ac)))⟩) (show rd _ _ [Ag,Af] (x5:Plan) from ⟨_,_,_,_,z,z,(Enc.rd_agr Ab (m.a00 (Enc.rd_lt Ab))),(Enc.rd_agr Aa (m.a00 (Enc.rd_lt Aa)))⟩) Ax) fun Ch e a k m=>pN 2 k z fun a k=>nn (cI h k z (fun Be h=>?_) fun Be h=>?_))
   · refine wr (pN 1 k z fun a k=>nn (wp_ret (rt_block (rt_then ?_))))
     refine fS h k m z z
   refine wr (sv k z (r_ldB ta30 m 1 Ak 0 k z z z z z z) fun a k=>sv k z (r_ldB ta74 m 2 Ai 0 k z z z z z z) fun a k=>oE h fun Ck Bb h=>cE k m call117 z z z (c_spec_l15Pallets fu _ _ (show rd _ _ [I r1.fWay,I r1.fPallet.fW,I r1.fPallet.fD,I r1.fPallet.fH,I r1.fPallet.fGram,I r1.fClasses,v9,Aj,I r1.fMaster,Ah] (r1:Request) from ⟨_,_,_,_,_,_,z,z,(Enc.rd_agr Ad (m.a00 (Enc.rd_lt Ad))),(Enc.rd_agr Ae (m.a00 (Enc.rd_lt Ae))),(Enc.rd_agr Ac (m.a00 (Enc.rd_lt Ac)))⟩) (show rd _ _ [Ag,Af] (x5:Plan) from ⟨_,_,_,_,z,z,(Enc.rd_agr Ab (m.a00 (Enc.rd_lt Ab))),(Enc.rd_agr Aa (m.a00 (Enc.rd_lt Aa)))⟩) Bb) fun Cl e a k m=>pN 2 k z fun a k=>nn ?_)
   refine cI h k z (fun Bo h=>?_) fun Bo h=>?_
   · refine wr (pN 1 k z fun a k=>nn (wp_ret (rt_block (rt_then ?_))))
     refine fS h k m z z
   refine wp_skip (nm_block (nm_then ?_))
   refine wr (pN 1 k z fun a k=>nn (wp_ret (fS h k m z z)))
 refine wr (sv k z (r_ldB ta74 m 0 Ai 0 k z z z z z z) fun a k=>oE h fun Bc Bn h=>cE k m call109 z z z (c_spec_PlanOk fu _ (show rd _ _ [Ag,Af] (x5:Plan) from ⟨_,_,_,_,z,z,(Enc.rd_agr Ab (m.a00 (Enc.rd_lt Ab))),(Enc.rd_agr Aa (m.a00 (Enc.rd_lt Aa)))⟩) Bn) fun Cg e a k m=>pN 2 k z fun a k=>bsplit (!Bc) (fun Al=>?_) (fun Al=>?_))
 · have h:=bif_t Al h
   refine rB k 12 z Al fun k=>pN 3 k z fun a k=>nn (wp_cond_true (k.ev z) (wr (pN 1 k z fun a k=>nn (wp_ret (rt_then ?_)))))
   refine fS h k m z z
 have h:=bif_f Al h
 refine rB k 12 z Al fun k=>sv k z (r_ldB ta74 m 0 Ai 0 k z z z z z z) fun a k=>oE h fun Cq Au h=>cE k m call110 z z z (c_spec_l15Empty fu _ (show rd _ _ [Ag,Af] (x5:Plan) from ⟨_,_,_,_,z,z,(Enc.rd_agr Ab (m.a00 (Enc.rd_lt Ab))),(Enc.rd_agr Aa (m.a00 (Enc.rd_lt Aa)))⟩) Au) fun Cr e a k m=>pN 1 k z fun a k=>nn (cI h k z (fun Ba h=>?_) fun Ba h=>?_)
 · refine wr (pN 1 k z fun a k=>nn (wp_ret (rt_then ?_)))
   refine fS h k m z z
 refine wp_skip (nm_then ?_)
 exact ⟨k.keep [2,3] z,m.sel [1,0] z (by decide),h⟩
theorem c_spec_Feasible (fu:Nat) {w0:World} (r1:Request) (x5:Plan) {Af:List Value} {F3:List Nat} (Al:rd w0 F3 Af r1) {Ad:List Value} {F7:List Nat} (Am:rd w0 F7 Ad x5) {r:Bool}
    (h:d_spec_Feasible fu r1 x5 = some r) :
    Calls Tryz.prog 43 #[.agg Af.toArray,.agg Ad.toArray] w0 fun e w=>e = .returned (.bool (r)) ∧ Ext [] w0 w:=by
 refine enter (vs:=[_,_]) func43 z ntmps43 z fun a k=>?_
 have m:=St.start w0
 obtain ⟨v9,Az,Ag,Av,Ac,At,rfl,rfl,Ah,Ai,Ab⟩:=Al
 obtain ⟨Ae,Ay,Aa,Aw,rfl,rfl,Aj,Ak⟩:=Am
 unfold d_spec_Feasible at h
 refine wr (s_box (cs:=[I r1.fWay,I r1.fPallet.fW,I r1.fPallet.fD,I r1.fPallet.fH,I r1.fPallet.fGram,I r1.fClasses,v9,Ag,I r1.fMaster,Ac]) m k z z z z z z fun Ar As a k m e Ap=>s_box (cs:=[Ae,Aa]) m k z z z z z z fun Ba Bb a k m e Ao=>pN 1 k z fun a k=>nn (wr (sv k z (r_ldB ta30 m 1 Ap 0 k z z z z z z) fun a k=>sv k z (r_ldB ta74 m 0 Ao 0 k z z z z z z) fun a k=>oE h fun Ax Aq h=>?_)))
 refine cE k m call39 z z z (c_spec_Check fu _ _ (show rd _ _ [I r1.fWay,I r1.fPallet.fW,I r1.fPallet.fD,I r1.fPallet.fH,I r1.fPallet.fGram,I r1.fClasses,v9,Ag,I r1.fMaster,Ac] (r1:Request) from ⟨_,_,_,_,_,_,z,z,(Enc.rd_agr Ah (m.a00 (Enc.rd_lt Ah))),(Enc.rd_agr Ai (m.a00 (Enc.rd_lt Ai))),(Enc.rd_agr Ab (m.a00 (Enc.rd_lt Ab)))⟩) (show rd _ _ [Ae,Aa] (x5:Plan) from ⟨_,_,_,_,z,z,(Enc.rd_agr Aj (m.a00 (Enc.rd_lt Aj))),(Enc.rd_agr Ak (m.a00 (Enc.rd_lt Ak)))⟩) Aq) fun Au e a k m=>pN 2 k z fun a k=>nn (wp_ret (fS h k m z z))
theorem c_spec_Front (fu:Nat) {w0:World} (r1:Request) (x5:Plan) {Bk:List Value} {F3:List Nat} (Ch:rd w0 F3 Bk r1) {Be:List Value} {F7:List Nat} (Ck:rd w0 F7 Be x5) {r:Plan}
    (h:d_spec_Front fu r1 x5 = some r) :
    Calls Tryz.prog 45 #[.agg Bk.toArray,.agg Be.toArray] w0 fun e w=>∃ (Br:List Value) (G0:List Nat),e = .returned (.agg Br.toArray) ∧ Ext [] w0 w ∧ ow w G0 Br r ∧ (∀ b ∈ G0,w0.heap.size ≤ b):=by
 refine enter (vs:=[_,_]) func45 z ntmps45 z fun a k=>?_
 have m:=St.start w0
 obtain ⟨v9,Cu,At,Cr,As,Dg,rfl,rfl,Ao,Ap,Am⟩:=Ch
 obtain ⟨Ax,Ct,Ar,Cs,rfl,rfl,Ac,Aa⟩:=Ck
 unfold d_spec_Front at h
 refine wr (s_box (cs:=[I r1.fWay,I r1.fPallet.fW,I r1.fPallet.fD,I r1.fPallet.fH,I r1.fPallet.fGram,I r1.fClasses,v9,At,I r1.fMaster,As]) m k z z z z z z fun Bc Cb a k m e Ay=>s_box (cs:=[Ax,Ar]) m k z z z z z z fun Bi Cg a k m e Aq=>s_alloc (cs:=[.slice none 0 0,.slice none 0 0]) m k zeroValue74 z z z z z fun Bn Cf a k m e Bs=>nn (wr (sv k z (r_ldB ta74 m 1 Aq 0 k z z z z z z) fun a k=>oE h fun Bh Cl h=>s_call k call132 z z z z z (c_spec_l13Copy fu _ (show rd _ _ [Ax,Ar] (x5:Plan) from ⟨_,_,_,_,z,z,(Enc.rd_agr Ac (m.a00 (Enc.rd_lt Ac))),(Enc.rd_agr Aa (m.a00 (Enc.rd_lt Aa)))⟩) Cl) fun Df Bj hR=>?_)))
 obtain ⟨De,Cq,rfl,e,Au,Ci⟩:=hR
 refine ⟨_,z,fun a k=>?_⟩
 have m:=m.new e Cq (fun b hb=>⟨Ci b hb,Enc.rd_lt (Enc.ow_rd Au) b hb⟩) (Enc.ow_nd Au)
 obtain ⟨Ak,Az,Aw,Bq,rfl,rfl,Ag,Ai,_⟩:=Au
 have m:=m.split2
 refine s_alloc (cs:=[.slice none 0 0,.slice none 0 0]) m k zeroValue74 z z z z z fun Av Cz a k m e Bv=>s_stb (cs':=[Ak,Aw]) sizeOf74 m 0 Bv 0 k z z z z z z z z z z (allc (rd_o (Enc.ow_rd Ag)) (allc (rd_o (Enc.ow_rd Ai)) alln)) fun Cn a k e m Bo=>nn (wp_seq (wr (sv k z (r_ldB ta30 m 5 Ay 0 k z z z z z z) fun a k=>sv k z (r_ldB ta74 m 4 Aq 0 k z z z z z z) fun a k=>oE h fun Cx Cm h=>?_)))
 refine cE k m call43 z z z (c_spec_Feasible fu _ _ (show rd _ _ [I r1.fWay,I r1.fPallet.fW,I r1.fPallet.fD,I r1.fPallet.fH,I r1.fPallet.fGram,I r1.fClasses,v9,At,I r1.fMaster,As] (r1:Request) from ⟨_,_,_,_,_,_,z,z,(Enc.rd_agr Ao (m.a00 (Enc.rd_lt Ao))),(Enc.rd_agr Ap (m.a00 (Enc.rd_lt Ap))),(Enc.rd_agr Am (m.a00 (Enc.rd_lt Am)))⟩) (show rd _ _ [Ax,Ar] (x5:Plan) from ⟨_,_,_,_,z,z,(Enc.rd_agr Ac (m.a00 (Enc.rd_lt Ac))),(Enc.rd_agr Aa (m.a00 (Enc.rd_lt Aa)))⟩) Cm) fun Dc e a k m=>pN 1 k z fun a k=>nn (cI h k z (fun Cc h=>?_) fun Cc h=>?_)
 · refine wr (sv k z (r_ldB ta74 m 0 Bo 0 k z z z z z z) fun a k=>s_stb (cs':=[Ak,Aw]) sizeOf74 m 3 Bs 0 k z z z z z z z z z z (allc (rd_o (Enc.ow_rd Ag)) (allc (rd_o (Enc.ow_rd Ai)) alln)) fun Cy a k e m Cp=>nn (wp_ret (rt_then ?_)))
   cases h
   exact finR1 k z (RV.cA k z ta74 (Cp.at (m.a 3 z) 0 2 z z z) z) ⟨_,_,z,m.ext,⟨_,Az,_,Bq,z,z,(Enc.ow_agr Ag (m.a 1 z)),(Enc.ow_agr Ai (m.a 2 z)),by simpa [fps] using (m.sel [1,2] z (by decide)).nd⟩,(app_fresh (m.fresh 1 z) (m.fresh 2 z))⟩
 refine wp_skip (nm_then ?_)
 refine wp_seq (wr (pN 1 k z fun a k=>nn (wp_block (c_loop (fun n a w=>∃ (Aj:List Spot) (Ad:Value) (Ab:List Nat) (Bb:World) (Al:World) (Ae:Int),K 46 [(2,.pointer (some (⟨Bc,0,none⟩:Addr))),(3,.pointer (some (⟨Bi,0,none⟩:Addr))),(4,.pointer (some (⟨Bn,0,none⟩:Addr))),(5,.pointer (some (⟨Av,0,none⟩:Addr))),(6,I Ae)] a ∧ St [] w0 w [([Bc],Cb),([Bi],Cg),([Bn],Cf),(Ab,Bb),([Av],Al),(Az,Bj)] ∧ ow Bb Ab [Ad] Aj ∧ bx Al Av [Ak,Ad] 74 ∧ d_spec_Front_L1 fu r1 x5 Bh n Aj Ae = some r) ?_ ?_ fu _ _ ?_))))
 · rintro a w ⟨_,_,_,_,_,_,_,_,_,_,h⟩
   exact nS h
 · rintro Dd a Da ⟨Aj,Ad,Ab,Bb,Al,Ae,k,m,Af,Ah,h⟩
   rw [d_spec_Front_L1_s] at h
   unfold d_spec_Front_L1_B at h
   refine wp_seq (wr (pN 1 k z fun a k=>sv k z (r_fa fa74_1 k z z) fun a k=>sv k z (r_ldb t172 m 4 Ah 1 k z z z z z) fun a k=>sv k z (r_len (α:=Spot) (Enc.ow_rd Af) k underlying72 z z) fun a k=>pN 1 k z fun a k=>nn (cI h k z (fun By h=>?_) fun By h=>?_)))
   · refine wp_skip (nm_then ?_)
     refine wp_seq (wp_block (d_go (Ab) mixo m z fun Bx hMd=>?_))
     have m:=hMd
     have s:=Ext.refl ((Ab):List Nat) Bx
     refine dN [2,8,16] 3 z k (by kernel_rfl) z s (fun _ _ _ _ _=>id) fun a k=>dt k 0 z (by kernel_rfl) z s (fun _ _ _=>id) (fun w s=>r_fa fa74_1 k z z) fun a k=>dt k 1 z (by kernel_rfl) z s (fun _ _ _=>id) (fun w s=>r_ld1 t172 (r:=[]) (Ah.at (hMd.az 4 3 z z z s) 1 1 z z z) k z z) fun a k=>dt k 3 z (by kernel_rfl) z s (fun _ _ _=>id) (fun w s=>r_fa fa30_1 k z z) fun a k=>dt k 4 z (by kernel_rfl) z s (fun _ _ _=>id) (fun w s=>r_fa fa25_1 k z z) fun a k=>dt k 5 z (by kernel_rfl) z s (fun _ _ _=>id) (fun w s=>r_ld1 t13 (r:=[]) (Ay.at (hMd.az 0 3 z z z s) 2 1 z z z) k z z) fun a k=>dt k 6 z (by kernel_rfl) z s (fun _ _ _=>id) (fun w s=>r_fa fa74_1 k z z) fun a k=>?_
     refine dt k 7 z (by kernel_rfl) z s (fun _ _ _=>id) (fun w s=>r_ld1 t172 (r:=[]) (Aq.at (hMd.az 1 3 z z z s) 1 1 z z z) k z z) fun a k=>oE h fun Bt Bf h=>dt k 9 z (by kernel_rfl) z s (fun _ _ _=>id) (fun w s=>r_ixa Aa Bf k ts72 z z z) fun a k=>dt k 10 z (by kernel_rfl) z s (fun _ _ _=>id) (fun w s=>r_fa fa139_2 k z z) fun a k=>dt k 11 z (by kernel_rfl) z s (fun _ _ _=>id) (fun w s=>r_lde1 Aa (hMd.az0 3 z z (Enc.rd_lt Aa) s) Bf 2 t13 k z z z z) fun a k=>dN [12] 1 z k (by kernel_rfl) z s (fun _ _ _ _ _=>id) fun a k=>dt k 13 z (by kernel_rfl) z s (fun _ _ _=>id) (fun w s=>r_ldA ta30 (Ay.at (hMd.az 0 3 z z z s) 0 10 z z z) z k z z) fun a k=>?_
     refine dt k 14 z (by kernel_rfl) z s (fun _ _ _=>id) (fun w s=>r_fa fa74_0 k z z) fun a k=>dt k 15 z (by kernel_rfl) z s (fun _ _ _=>id) (fun w s=>r_ld1 t143 (r:=[]) (Aq.at (hMd.az 1 3 z z z s) 0 1 z z z) k z z) fun a k=>oE h fun Ba Bm h=>dt k 17 z (by kernel_rfl) z s (fun _ _ _=>id) (fun w s=>r_ixa Ac Bm k ts43 z z z) fun a k=>?_
     obtain ⟨Di,Cw,Dh,Co,Bw,Ca⟩:=rd_get Ac (ix_some Bm).2.2
     obtain ⟨Bu,_,rfl,rfl,Bd⟩:=Co
     refine dt k 18 z (by kernel_rfl) z s (fun _ _ _=>id) (fun w s=>r_ldA ta33 (Bw.agr (hMd.az0 3 z z (Enc.rd_lt Ac) s) Ca) z k z z) fun a k=>d_one 19 (by kernel_rfl) z (oE h fun Bp Cj h=>cE k m call133 z z z (c_spec_BoxOf fu _ _ (show rd _ _ [I r1.fWay,I r1.fPallet.fW,I r1.fPallet.fD,I r1.fPallet.fH,I r1.fPallet.fGram,I r1.fClasses,v9,At,I r1.fMaster,As] (r1:Request) from ⟨_,_,_,_,_,_,z,z,(Enc.rd_agr Ao (m.a00 (Enc.rd_lt Ao))),(Enc.rd_agr Ap (m.a00 (Enc.rd_lt Ap))),(Enc.rd_agr Am (m.a00 (Enc.rd_lt Am)))⟩) (show rd _ _ [I Ba.fType,I Ba.fGroup,Bu] (Ba:Carton) from ⟨_,_,z,z,(Enc.rd_agr Bd (m.a00 (Enc.rd_lt Bd)))⟩) Cj) fun Db e a k m=>?_)
     have s:=s.trans e (by simp)
     refine wpList_nil ⟨s,?_⟩
     refine dt k 20 z (by kernel_rfl) z s (fun _ _ _=>id) (fun w s=>r_fld1 fd140_1 k z z z) fun a k=>dN [21] 1 z k (by kernel_rfl) z s (fun _ _ _ _ _=>id) fun a k=>oE h fun Bl Bg h=>dt k 22 z (by kernel_rfl) z s (fun _ _ _=>id) (fun w s=>r_ixa (Enc.ow_rd Af) Bg k ts72 z z z) fun a k=>dt k 23 z (by kernel_rfl) z s (fun _ _ _=>id) (fun w s=>r_fa fa139_2 k z z) fun a k=>d_one 24 (by kernel_rfl) z (s_ste (α:=Spot) (sz:=4) (y:={ Bl with fY:=w64 ((w64 (r1.fPallet.fD - Bt.fY)) - Bp.fD) }) sizeOf3 Bg m 3 Af 2 k z z z z z z z z z z z z fun Ce a k e m Cd=>?_)
     have s:=s.trans e (fun y hy=>Or.inl hy)
     refine wpList_nil ⟨s,?_⟩
     refine d_done (by kernel_rfl) ?_
     have k:=k.keep [2,3,4,5,6] z
     refine (nm_block (nm_then ?_))
     refine wp_region_lit (pN 3 k z fun a k=>nn ?_)
     exact ⟨setx Aj Ae ({ Bl with fY:=w64 ((w64 (r1.fPallet.fD - Bt.fY)) - Bp.fD) }),Ad,Ab,Ce,Al,w64 (Ae + 1),k.keep [2,3,4,5,6] z,m.sel [0,1,2,3,4,5] z (by decide),Cd,Ah,h⟩
   refine wp_exit (ex_then (ex_then (ex_same (nm_then ?_))))
   refine wr (sv k z (r_ldB ta74 m 4 Ah 0 k z z z z z z) fun a k=>s_stb (cs':=[Ak,Ad]) sizeOf74 m 2 Bs 0 k z z z z z z z z z z (allc (rd_o (Enc.ow_rd Ag)) (allc (rd_o (Enc.ow_rd Af)) alln)) fun Cv a k e m Bz=>nn (wp_ret ?_))
   cases h
   exact finR1 k z (RV.cA k z ta74 (Bz.at (m.a 2 z) 0 2 z z z) z) ⟨_,_,z,m.ext,⟨_,Az,_,Ab,z,z,(Enc.ow_agr Ag (m.a 5 z)),(Enc.ow_agr Af (m.a 3 z)),by simpa [fps] using (m.sel [5,3] z (by decide)).nd⟩,(app_fresh (m.fresh 5 z) (m.fresh 3 z))⟩
 exact ⟨Bh.fSpots,Aw,Bq,Bj,Cn,0,k.keep [2,3,4,5,6] z,m.sel [5,4,3,2,0,1] z (by decide),Ai,Bo,h⟩

end Go.Proofs.YtlmibnlfkmiikaaGreat
