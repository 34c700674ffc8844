/- FnExactFront: the walks of functions that it reaches (ExactFrontBWl,part 2). Printed by gen.py. -/
import Derived.Test.YtlmibnlfkmiikaaGreatExactFrontBWl1
set_option maxRecDepth 20000
set_option linter.unusedSimpArgs false
set_option linter.unusedVariables false
namespace Go.Proofs.YtlmibnlfkmiikaaGreat
open Go Go.RowKit
open Enc (rd ow)
open Arg (argv)
open Ret (retv)
open Go.Proofs.Tryz

theorem c_laws_markSpotS (fu:Nat) {w0:World} (a1:List Spot) (Ae:Int) {v2:Value} {F3:List Nat} (Ag:ow w0 F3 [v2] a1) {r:Int × (List Spot)}
    (h:d_laws_markSpotS fu a1 Ae = some r) :
    Calls Tryz.prog 137 #[v2,I Ae] w0 fun e w=>∃ (H0:List Nat),e = .returned (I r.1) ∧ Ext F3 w0 w ∧ (∀ b ∈ H0,b ∈ F3 ∨ w0.heap.size ≤ b) ∧ ow w H0 [v2] r.2:=by
 refine enter (vs:=[_,_]) func137 z ntmps137 z fun a k=>?_
 have m:=St.start1 w0 (Enc.rd_lt (Enc.ow_rd Ag)) (Enc.ow_nd Ag)
 unfold d_laws_markSpotS at h
 refine wr (pN 1 k z fun a k=>nn (wp_seq (wr (pN 1 k z fun a k=>nn (wp_block (c_loop (fun n a w=>∃ (Ad:List Spot) (Af:World) (Aa:Int) (Ab:Int),K 41 [(0,v2),(1,I Aa),(5,I Ab)] a ∧ St F3 w0 w [(F3,Af)] ∧ ow Af F3 [v2] Ad ∧ d_laws_markSpotS_L1 fu  n Ad Aa Ab = some r) ?_ ?_ fu _ _ ?_))))))
 · rintro a w ⟨_,_,_,_,_,_,_,h⟩
   exact nS h
 · rintro Aw a Ay ⟨Ad,Af,Aa,Ab,k,m,Ac,h⟩
   rw [d_laws_markSpotS_L1_s] at h
   unfold d_laws_markSpotS_L1_B at h
   refine wp_seq (wr (pN 2 k z fun a k=>sv k z (r_len (α:=Spot) (Enc.ow_rd Ac) k underlying72 z z) fun a k=>pN 1 k z fun a k=>nn (cI h k z (fun At h=>?_) fun At h=>?_)))
   · refine wp_skip (nm_then ?_)
     refine wp_seq (wp_block (wr (pN 3 k z fun a k=>oE h fun As Ah h=>sv k z (r_ixa (Enc.ow_rd Ac) Ah k ts72 z z z) fun a k=>sv k z (r_fa fa139_0 k z z) fun a k=>s_ste (α:=Spot) (sz:=4) (y:={ As with fPallet:=Aa }) sizeOf3 Ah m 0 Ac 0 k z z z z z z z z z z z z fun Ax a k e m Ap=>nn (wr (pN 3 k z fun a k=>nn (wr (pN 3 k z fun a k=>oE h fun Aq Am h=>sv k z (r_ixa (Enc.ow_rd Ap) Am k ts72 z z z) fun a k=>sv k z (r_fa fa139_1 k z z) fun a k=>s_ste (α:=Spot) (sz:=4) (y:={ Aq with fX:=w64 (Aa + 1) }) sizeOf3 Am m 0 Ap 1 k z z z z z z z z z z z z fun Ba a k e m Al=>nn (wr (pN 3 k z fun a k=>nn (wr (pN 3 k z fun a k=>oE h fun Aj Ar h=>?_)))))))))))
     refine sv k z (r_ixa (Enc.ow_rd Al) Ar k ts72 z z z) fun a k=>sv k z (r_fa fa139_2 k z z) fun a k=>s_ste (α:=Spot) (sz:=4) (y:={ Aj with fY:=w64 ((w64 (Aa + 1)) + 1) }) sizeOf3 Ar m 0 Al 2 k z z z z z z z z z z z z fun Az a k e m Ai=>?_
     have k:=k.keep [0,1,5] z
     refine nn (wr (pN 3 k z fun a k=>nn (wr (pN 3 k z fun a k=>oE h fun Ak Ao h=>sv k z (r_ixa (Enc.ow_rd Ai) Ao k ts72 z z z) fun a k=>sv k z (r_fa fa139_3 k z z) fun a k=>s_ste (α:=Spot) (sz:=4) (y:={ Ak with fZ:=w64 ((w64 ((w64 (Aa + 1)) + 1)) + 1) }) sizeOf3 Ao m 0 Ai 3 k z z z z z z z z z z z z fun Av a k e m Au=>nn (wp_region_lit (pN 3 k z fun a k=>wpList_nil (nm_block (nm_then ?_))))))))
     refine wp_region_lit (pN 3 k z fun a k=>nn ?_)
     exact ⟨setx (setx (setx (setx Ad Ab ({ As with fPallet:=Aa })) Ab ({ Aq with fX:=w64 (Aa + 1) })) Ab ({ Aj with fY:=w64 ((w64 (Aa + 1)) + 1) })) Ab ({ Ak with fZ:=w64 ((w64 ((w64 (Aa + 1)) + 1)) + 1) }),Av,w64 ((w64 ((w64 ((w64 (Aa + 1)) + 1)) + 1)) + 1),w64 (Ab + 1),k.keep [0,1,5] z,m.sel [0] z (by decide),Au,h⟩
   refine wp_exit (ex_then (ex_then (ex_same (nm_then ?_))))
   refine wr (pN 2 k z fun a k=>nn (wp_ret ?_))
   cases h
   exact finR1 k z (RV.tmp k z) ⟨F3,z,m.ext,(fun b hb=>m.lo b (mem_fps (i:=0) z hb)),(Enc.ow_agr Ac (m.a 0 z))⟩
 exact ⟨a1,w0,Ae,0,k.keep [0,1,5] z,m.sel [0] z (by decide),Ag,h⟩
theorem c_laws_markPlan (fu:Nat) {w0:World} (a1:Plan) (Ae:Int) {Aa:List Value} {F3:List Nat} (Ad:ow w0 F3 Aa a1) {r:Int × Plan}
    (h:d_laws_markPlan fu a1 Ae = some r) :
    Calls Tryz.prog 47 #[.agg Aa.toArray,I Ae] w0 fun e w=>∃ (H0:List Nat),e = .returned (I r.1) ∧ Ext F3 w0 w ∧ (∀ b ∈ H0,b ∈ F3 ∨ w0.heap.size ≤ b) ∧ ow w H0 Aa r.2:=by
 refine enter (vs:=[_,_]) func47 z ntmps47 z fun a k=>?_
 have m:=St.start1 w0 (Enc.rd_lt (Enc.ow_rd Ad)) (Enc.ow_nd Ad)
 obtain ⟨v6,F7,v9,Aq,rfl,rfl,Aj,Ai,_⟩:=Ad
 have m:=m.split2
 unfold d_laws_markPlan at h
 refine wr (s_box (cs:=[v6,v9]) m k z z z z z z fun At Au a k m e Af=>pN 1 k z fun a k=>nn (wr (sv k z (r_fa fa74_0 k z z) fun a k=>sv k z (r_ldb t143 m 0 Af 0 k z z z z z) fun a k=>pN 1 k z fun a k=>oE h fun Aw Ao h=>s_call k call136 z z z z z (c_laws_markCartonS fu _ _ (Enc.ow_agr Aj (m.a 1 z)) Ao) fun As Ax hR=>?_)))
 obtain ⟨Am,rfl,e,Al,Ab⟩:=hR
 refine ⟨_,z,fun a k=>?_⟩
 have m:=m.mut 1 z e _ (fun b hb=>⟨Al b hb,Enc.rd_lt (Enc.ow_rd Ab) b hb⟩) (Enc.ow_nd Ab)
 refine pN 1 k z fun a k=>nn (wr (sv k z (r_fa fa74_1 k z z) fun a k=>sv k z (r_ldb t172 m 0 Af 1 k z z z z z) fun a k=>pN 1 k z fun a k=>oE h fun Ar Ak h=>s_call k call137 z z z z z (c_laws_markSpotS fu _ _ (Enc.ow_agr Ai (m.a 2 z)) Ak) fun Av Ap hR=>?_))
 obtain ⟨Ah,rfl,e,Ag,Ac⟩:=hR
 refine ⟨_,z,fun a k=>?_⟩
 have m:=m.mut 2 z e _ (fun b hb=>⟨Ag b hb,Enc.rd_lt (Enc.ow_rd Ac) b hb⟩) (Enc.ow_nd Ac)
 refine pN 1 k z fun a k=>nn (wr (pN 2 k z fun a k=>nn (wp_ret ?_)))
 cases h
 exact finR1 k z (RV.tmp k z) ⟨Am ++ (Ah),z,m.ext,(fun b hb=>(m.sel [1,2] z (by decide)).lo b (by simpa [fps] using hb)),⟨_,_,_,_,z,z,(Enc.ow_agr Ab (m.a 1 z)),(Enc.ow_agr Ac (m.a 2 z)),by simpa [fps] using (m.sel [1,2] z (by decide)).nd⟩⟩
theorem c_laws_heldIntS (fu:Nat) {w0:World} (a1:List Int) (Ad:Int) {v2:Value} {F3:List Nat} (Ac:rd w0 F3 [v2] a1) {r:Int}
    (h:d_laws_heldIntS fu a1 Ad = some r) :
    Calls Tryz.prog 103 #[v2,I Ad] w0 fun e w=>e = .returned (I r) ∧ Ext [] w0 w:=by
 refine enter (vs:=[_,_]) func103 z ntmps103 z fun a k=>?_
 have m:=St.start w0
 unfold d_laws_heldIntS at h
 refine wr (pN 1 k z fun a k=>nn (wp_seq (wr (pN 1 k z fun a k=>nn (wp_block (c_loop (fun n a w=>∃ (Ab:Int) (Aa:Int),K 21 [(0,v2),(1,I Ab),(5,I Aa)] a ∧ St [] w0 w [] ∧ d_laws_heldIntS_L1 fu a1 n Ab Aa = some r) ?_ ?_ fu _ _ ?_))))))
 · rintro a w ⟨_,_,_,_,h⟩
   exact nS h
 · rintro Ai a Aj ⟨Ab,Aa,k,m,h⟩
   rw [d_laws_heldIntS_L1_s] at h
   unfold d_laws_heldIntS_L1_B at h
   refine wp_seq (wr (pN 2 k z fun a k=>sv k z (r_len (α:=Int) Ac k underlying31 z z) fun a k=>pN 1 k z fun a k=>nn (cI h k z (fun Af h=>?_) fun Af h=>?_)))
   · refine wp_skip (nm_then ?_)
     refine wp_seq (wp_block (wp_seq (wr (pN 2 k z fun a k=>oE h fun Ah Ae h=>sv k z (r_ixa Ac Ae k ts31 z z z) fun a k=>sv k z (r_lde1 Ac (m.a00 (Enc.rd_lt Ac)) Ae 0 t13 k z z z z) fun a k=>pN 2 k z fun a k=>nn (cI h k z (fun Ag h=>?_) fun Ag h=>?_)))))
     · refine wr (pN 1 k z fun a k=>nn (wp_ret (rt_then (rt_block (rt_then (rt_then (rt_block (rt_then ?_))))))))
       refine fS h k m z z
     refine wp_skip (nm_then ?_)
     refine wp_region_lit (pN 3 k z fun a k=>wpList_nil (nm_block (nm_then ?_)))
     refine wp_region_lit (pN 3 k z fun a k=>nn ?_)
     exact ⟨w64 (Ab + 1),w64 (Aa + 1),k.keep [0,1,5] z,m.sel [] z (by decide),h⟩
   refine wp_exit (ex_then (ex_then (ex_same (nm_then ?_))))
   refine wr (pN 2 k z fun a k=>nn (wp_ret (fS h k m z z)))
 exact ⟨Ad,0,k.keep [0,1,5] z,m.sel [] z (by decide),h⟩
theorem c_laws_heldCartonS (fu:Nat) {w0:World} (a1:List Carton) (Ad:Int) {v2:Value} {F3:List Nat} (Aa:rd w0 F3 [v2] a1) {r:Int}
    (h:d_laws_heldCartonS fu a1 Ad = some r) :
    Calls Tryz.prog 138 #[v2,I Ad] w0 fun e w=>e = .returned (I r) ∧ Ext [] w0 w:=by
 refine enter (vs:=[_,_]) func138 z ntmps138 z fun a k=>?_
 have m:=St.start w0
 unfold d_laws_heldCartonS at h
 refine wr (pN 1 k z fun a k=>nn (wp_seq (wr (pN 1 k z fun a k=>nn (wp_block (c_loop (fun n a w=>∃ (Ae:Int) (Ac:Int),K 40 [(0,v2),(1,I Ae),(5,I Ac)] a ∧ St [] w0 w [] ∧ d_laws_heldCartonS_L1 fu a1 n Ae Ac = some r) ?_ ?_ fu _ _ ?_))))))
 · rintro a w ⟨_,_,_,_,h⟩
   exact nS h
 · rintro Aq a Ba ⟨Ae,Ac,k,m,h⟩
   rw [d_laws_heldCartonS_L1_s] at h
   unfold d_laws_heldCartonS_L1_B at h
   refine wp_seq (wr (pN 2 k z fun a k=>sv k z (r_len (α:=Carton) Aa k underlying43 z z) fun a k=>pN 1 k z fun a k=>nn (cI h k z (fun Ao h=>?_) fun Ao h=>?_)))
   · refine wp_skip (nm_then ?_)
     refine wp_seq (wp_block (wp_seq (wr (pN 2 k z fun a k=>oE h fun Ax Ab h=>sv k z (r_ixa Aa Ab k ts43 z z z) fun a k=>sv k z (r_fa fa33_0 k z z) fun a k=>?_))))
     obtain ⟨As,Aw,Ay,Aj,Ag,Af⟩:=rd_get Aa (ix_some Ab).2.2
     obtain ⟨Az,_,rfl,rfl,Ah⟩:=Aj
     refine sv k z (r_ld1 t13 ((Ag.agr (m.a00 (Enc.rd_lt Aa)) Af).fld 0 1 (Nat.le_of_ble_eq_true z)) k z z) fun a k=>pN 2 k z fun a k=>nn (cI h k z (fun Ai h=>?_) fun Ai h=>?_)
     · refine wr (pN 1 k z fun a k=>nn (wp_ret (rt_then (rt_block (rt_then (rt_then (rt_block (rt_then ?_))))))))
       refine fS h k m z z
     refine wp_skip (nm_then ?_)
     refine wr (pN 3 k z fun a k=>nn (wp_seq (wr (pN 2 k z fun a k=>oE h fun At Bb h=>sv k z (r_ixa Aa Ab k ts43 z z z) fun a k=>sv k z (r_fa fa33_1 k z z) fun a k=>sv k z (r_ld1 t13 ((Ag.agr (m.a00 (Enc.rd_lt Aa)) Af).fld 1 1 (Nat.le_of_ble_eq_true z)) k z z) fun a k=>pN 2 k z fun a k=>nn (cI h k z (fun Am h=>?_) fun Am h=>?_)))))
     · refine wr (pN 1 k z fun a k=>nn (wp_ret (rt_then (rt_block (rt_then (rt_then (rt_block (rt_then ?_))))))))
       refine fS h k m z z
     refine wp_skip (nm_then ?_)
     refine wr (pN 3 k z fun a k=>nn (wr (pN 2 k z fun a k=>oE h fun Av Au h=>sv k z (r_ixa Aa Ab k ts43 z z z) fun a k=>sv k z (r_fa fa33_2 k z z) fun a k=>sv k z (r_ld1 t131 ((Ag.agr (m.a00 (Enc.rd_lt Aa)) Af).fld 2 1 (Nat.le_of_ble_eq_true z)) k z z) fun a k=>pN 1 k z fun a k=>oE h fun Al Ap h=>cE k m call103 z z z (c_laws_heldIntS fu _ _ (Enc.rd_agr Ah (m.a00 (Enc.rd_lt Ah))) Ap) fun Ar e a k m=>pN 1 k z fun a k=>?_)))
     have k:=k.keep [0,1,5] z
     refine nn (wr (pN 2 k z fun a k=>nn (cI h k z (fun Ak h=>?_) fun Ak h=>?_)))
     · refine wr (pN 1 k z fun a k=>nn (wp_ret (rt_block (rt_then (rt_then (rt_block (rt_then ?_)))))))
       refine fS h k m z z
     refine wp_skip (nm_block (nm_then ?_))
     refine wp_region_lit (pN 3 k z fun a k=>nn ?_)
     exact ⟨Al,w64 (Ac + 1),k.keep [0,1,5] z,m.sel [] z (by decide),h⟩
   refine wp_exit (ex_then (ex_then (ex_same (nm_then ?_))))
   refine wr (pN 2 k z fun a k=>nn (wp_ret (fS h k m z z)))
 exact ⟨Ad,0,k.keep [0,1,5] z,m.sel [] z (by decide),h⟩
theorem c_laws_heldSpotS (fu:Nat) {w0:World} (a1:List Spot) (Ae:Int) {v2:Value} {F3:List Nat} (Aa:rd w0 F3 [v2] a1) {r:Int}
    (h:d_laws_heldSpotS fu a1 Ae = some r) :
    Calls Tryz.prog 139 #[v2,I Ae] w0 fun e w=>e = .returned (I r) ∧ Ext [] w0 w:=by
 refine enter (vs:=[_,_]) func139 z ntmps139 z fun a k=>?_
 have m:=St.start w0
 unfold d_laws_heldSpotS at h
 refine wr (pN 1 k z fun a k=>nn (wp_seq (wr (pN 1 k z fun a k=>nn (wp_block (c_loop (fun n a w=>∃ (Ac:Int) (Ad:Int),K 49 [(0,v2),(1,I Ac),(5,I Ad)] a ∧ St [] w0 w [] ∧ d_laws_heldSpotS_L1 fu a1 n Ac Ad = some r) ?_ ?_ fu _ _ ?_))))))
 · rintro a w ⟨_,_,_,_,h⟩
   exact nS h
 · rintro At a Am ⟨Ac,Ad,k,m,h⟩
   rw [d_laws_heldSpotS_L1_s] at h
   unfold d_laws_heldSpotS_L1_B at h
   refine wp_seq (wr (pN 2 k z fun a k=>sv k z (r_len (α:=Spot) Aa k underlying72 z z) fun a k=>pN 1 k z fun a k=>nn (cI h k z (fun Af h=>?_) fun Af h=>?_)))
   · refine wp_skip (nm_then ?_)
     refine wp_seq (wp_block (wp_seq (wr (pN 2 k z fun a k=>oE h fun As Ab h=>sv k z (r_ixa Aa Ab k ts72 z z z) fun a k=>sv k z (r_fa fa139_0 k z z) fun a k=>sv k z (r_lde1 Aa (m.a00 (Enc.rd_lt Aa)) Ab 0 t13 k z z z z) fun a k=>pN 2 k z fun a k=>nn (cI h k z (fun Ag h=>?_) fun Ag h=>?_)))))
     · refine wr (pN 1 k z fun a k=>nn (wp_ret (rt_then (rt_block (rt_then (rt_then (rt_block (rt_then ?_))))))))
       refine fS h k m z z
     refine wp_skip (nm_then ?_)
     refine wr (pN 3 k z fun a k=>nn (wp_seq (wr (pN 2 k z fun a k=>oE h fun Ar Ak h=>sv k z (r_ixa Aa Ab k ts72 z z z) fun a k=>sv k z (r_fa fa139_1 k z z) fun a k=>sv k z (r_lde1 Aa (m.a00 (Enc.rd_lt Aa)) Ab 1 t13 k z z z z) fun a k=>pN 2 k z fun a k=>nn (cI h k z (fun Ah h=>?_) fun Ah h=>?_)))))
     · refine wr (pN 1 k z fun a k=>nn (wp_ret (rt_then (rt_block (rt_then (rt_then (rt_block (rt_then ?_))))))))
       refine fS h k m z z
     refine wp_skip (nm_then ?_)
     refine wr (pN 3 k z fun a k=>nn (wp_seq (wr (pN 2 k z fun a k=>oE h fun Al Ao h=>sv k z (r_ixa Aa Ab k ts72 z z z) fun a k=>sv k z (r_fa fa139_2 k z z) fun a k=>sv k z (r_lde1 Aa (m.a00 (Enc.rd_lt Aa)) Ab 2 t13 k z z z z) fun a k=>pN 2 k z fun a k=>?_))))
     have k:=k.keep [0,1,5,36] z
     refine nn (cI h k z (fun Aj h=>?_) fun Aj h=>?_)
     · refine wr (pN 1 k z fun a k=>nn (wp_ret (rt_then (rt_block (rt_then (rt_then (rt_block (rt_then ?_))))))))
       refine fS h k m z z
     refine wp_skip (nm_then ?_)
     refine wr (pN 3 k z fun a k=>nn (wp_seq (wr (pN 2 k z fun a k=>oE h fun Aq Ap h=>sv k z (r_ixa Aa Ab k ts72 z z z) fun a k=>sv k z (r_fa fa139_3 k z z) fun a k=>sv k z (r_lde1 Aa (m.a00 (Enc.rd_lt Aa)) Ab 3 t13 k z z z z) fun a k=>pN 2 k z fun a k=>nn (cI h k z (fun Ai h=>?_) fun Ai h=>?_)))))
     · refine wr (pN 1 k z fun a k=>nn (wp_ret (rt_then (rt_block (rt_then (rt_then (rt_block (rt_then ?_))))))))
       refine fS h k m z z
     refine wp_skip (nm_then ?_)
     refine wp_region_lit (pN 3 k z fun a k=>wpList_nil (nm_block (nm_then ?_)))
     refine wp_region_lit (pN 3 k z fun a k=>nn ?_)
     exact ⟨w64 ((w64 ((w64 ((w64 (Ac + 1)) + 1)) + 1)) + 1),w64 (Ad + 1),k.keep [0,1,5] z,m.sel [] z (by decide),h⟩
   refine wp_exit (ex_then (ex_then (ex_same (nm_then ?_))))
   refine wr (pN 2 k z fun a k=>nn (wp_ret (fS h k m z z)))
 exact ⟨Ae,0,k.keep [0,1,5] z,m.sel [] z (by decide),h⟩
theorem c_laws_heldPlan (fu:Nat) {w0:World} (a1:Plan) (Ab:Int) {Ae:List Value} {F3:List Nat} (Aj:rd w0 F3 Ae a1) {r:Int}
    (h:d_laws_heldPlan fu a1 Ab = some r) :
    Calls Tryz.prog 48 #[.agg Ae.toArray,I Ab] w0 fun e w=>e = .returned (I r) ∧ Ext [] w0 w:=by
 refine enter (vs:=[_,_]) func48 z ntmps48 z fun a k=>?_
 have m:=St.start w0
 obtain ⟨v6,F7,v8,F9,rfl,rfl,Aa,Ad⟩:=Aj
 unfold d_laws_heldPlan at h
 refine wr (s_box (cs:=[v6,v8]) m k z z z z z z fun Ap Ak a k m e Ac=>pN 1 k z fun a k=>nn (wr (sv k z (r_fa fa74_0 k z z) fun a k=>sv k z (r_ldb t143 m 0 Ac 0 k z z z z z) fun a k=>pN 1 k z fun a k=>oE h fun Al Ah h=>cE k m call138 z z z (c_laws_heldCartonS fu _ _ (Enc.rd_agr Aa (m.a00 (Enc.rd_lt Aa))) Ah) fun Aq e a k m=>pN 1 k z fun a k=>nn (wp_seq (wr (pN 2 k z fun a k=>nn (cI h k z (fun Ag h=>?_) fun Ag h=>?_)))))))
 · refine wr (pN 1 k z fun a k=>nn (wp_ret (rt_then ?_)))
   refine fS h k m z z
 refine wp_skip (nm_then ?_)
 refine wr (sv k z (r_fa fa74_1 k z z) fun a k=>sv k z (r_ldb t172 m 0 Ac 1 k z z z z z) fun a k=>pN 1 k z fun a k=>oE h fun Am Ai h=>cE k m call139 z z z (c_laws_heldSpotS fu _ _ (Enc.rd_agr Ad (m.a00 (Enc.rd_lt Ad))) Ai) fun Ao e a k m=>pN 1 k z fun a k=>nn (wp_seq (wr (pN 2 k z fun a k=>nn (cI h k z (fun Af h=>?_) fun Af h=>?_)))))
 · refine wr (pN 1 k z fun a k=>nn (wp_ret (rt_then ?_)))
   refine fS h k m z z
 refine wp_skip (nm_then ?_)
 refine wr (pN 2 k z fun a k=>nn (wp_ret (fS h k m z z)))

end Go.Proofs.YtlmibnlfkmiikaaGreat
