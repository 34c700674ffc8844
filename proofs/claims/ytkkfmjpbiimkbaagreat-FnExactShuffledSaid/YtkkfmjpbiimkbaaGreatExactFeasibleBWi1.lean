/- FnExactFeasible: the walks of functions that it reaches (ExactFeasibleBWi,part 1). Printed by gen.py. -/
import Derived.Test.YtkkfmjpbiimkbaaGreatExactFeasibleBT
set_option maxRecDepth 20000
set_option linter.unusedSimpArgs false
set_option linter.unusedVariables false
namespace Go.Proofs.YtkkfmjpbiimkbaaGreat
open Go Go.RowKit
open Enc (rd ow)
open Arg (argv)
open Ret (retv)
open Go.Proofs.Tryz


theorem c_impl_TypeById_1 (fu:Nat) {w0:World} (t1:Typ) (x2:Int) {b3:Nat} (Aa:bx w0 b3 [I x2] 3) {r:Bool}
    (h:d_impl_TypeById_1 fu t1 x2 = some r) :
    Calls Tryz.prog 146 #[.agg (Flat.e (t1)).toArray,.pointer (some (⟨b3,0,none⟩:Addr))] w0 fun e w=>e = .returned (.bool (r)) ∧ Ext [] w0 w:=by
 refine enter (vs:=[_,_]) func146 z ntmps146 z fun a k=>?_
 have m:=St.start w0
 unfold d_impl_TypeById_1 at h
 refine wr (s_box (cs:=[I t1.fId,I t1.fW,I t1.fH,I t1.fD,I t1.fTare,I t1.fGram,I t1.fCost]) m k z z z z z z fun b5 w7 a k m e Ab=>pN 1 k z fun a k=>nn (wr (sv k z (r_fa fa79_0 k z z) fun a k=>sv k z (r_ldb t13 m 0 Ab 0 k z z z z z) fun a k=>sv k z (r_ld1 t13 (r:=[]) (Aa.at (m.a00 Aa.lt1) 0 1 z z z) k z z) fun a k=>pN 2 k z fun a k=>nn (wp_ret (fS h k m z z)))))
theorem c_slices_IndexFunc_impl_Type_impl_Type (fu:Nat) {w0:World} (Ab:List Typ) (f5:Typ → Option Bool) {v2:Value} {F3:List Nat} (Ac:rd w0 F3 [v2] Ab) {v6:Value} (Ak:FnOk1 Tryz.prog w0 v6 f5) {r:Int}
    (h:d_slices_IndexFunc_impl_Type_impl_Type fu Ab f5 = some r) :
    Calls Tryz.prog 145 #[v2,v6] w0 fun e w=>e = .returned (I r) ∧ Ext [] w0 w:=by
 refine enter (vs:=[_,_]) func145 z ntmps145 z fun a k=>?_
 have m:=St.start w0
 obtain ⟨Aj,Ag,rfl,Ae,Ai⟩:=Ak
 unfold d_slices_IndexFunc_impl_Type_impl_Type at h
 refine wr (pN 1 k z fun a k=>nn (wp_seq (wr (pN 1 k z fun a k=>sv k z (r_len (α:=Typ) Ac k underlying35 z z) fun a k=>pN 1 k z fun a k=>nn (wp_block (c_loop (fun n a w=>∃ (Aa:Int),K 19 [(0,v2),(1,(.func (.func Aj) #[] Ag.toArray)),(7,I ((Ab.length:Int))),(8,I Aa)] a ∧ St [] w0 w [] ∧ d_slices_IndexFunc_impl_Type_impl_Type_L1 fu Ab f5 n Aa = some r) ?_ ?_ fu _ _ ?_))))))
 · rintro a w ⟨_,_,_,h⟩
   exact nS h
 · rintro Ar a As ⟨Aa,k,m,h⟩
   rw [d_slices_IndexFunc_impl_Type_impl_Type_L1_s] at h
   unfold d_slices_IndexFunc_impl_Type_impl_Type_L1_B at h
   refine wr (pN 1 k z fun a k=>nn (wp_seq (cI h k z (fun Af h=>?_) fun Af h=>?_)))
   · refine wp_skip (nm_then ?_)
     refine wp_seq (wp_block (wr (pN 2 k z fun a k=>nn (wr (pN 3 k z fun a k=>oE h fun Ap Ad h=>sv k z (r_ixa Ac Ad k ts35 z z z) fun a k=>sv k z (r_lde Ac (m.a00 (Enc.rd_lt Ac)) Ad ta79 k z z) fun a k=>oE h fun Aq Al h=>s_callv k Ae z z z z z z (Ai _ _ _ _ m.ext z Al) fun Ao Am hR=>?_)))))
     obtain ⟨rfl,e⟩:=hR
     refine ⟨_,z,fun a k=>?_⟩
     have m:=m.step e
     refine nn (cI h k z (fun Ah h=>?_) fun Ah h=>?_)
     · refine wr (pN 2 k z fun a k=>nn (wp_ret (rt_block (rt_then (rt_then (rt_block (rt_then ?_)))))))
       refine fS h k m z z
     refine wp_skip (nm_block (nm_then ?_))
     refine wp_region_lit (pN 2 k z fun a k=>nn ?_)
     exact ⟨w64 (Aa + 1),k.keep [0,1,7,8] z,m.sel [] z (by decide),h⟩
   refine wp_exit (ex_then (ex_then (ex_same (nm_then ?_))))
   refine wr (pN 1 k z fun a k=>nn (wp_ret (fS h k m z z)))
 exact ⟨0,k.keep [0,1,7,8] z,m.sel [] z (by decide),h⟩
theorem c_impl_TypeById (fu:Nat) {w0:World} (r1:Request) (Ac:Int) {Ag:List Value} {F3:List Nat} (Ai:rd w0 F3 Ag r1) {r:Typ × Bool}
    (h:d_impl_TypeById fu r1 Ac = some r) :
    Calls Tryz.prog 53 #[.agg Ag.toArray,I Ac] w0 fun e w=>e = .returned (.tuple #[.agg (Flat.e r.1).toArray,.bool (r.2)]) ∧ Ext [] w0 w:=by
 refine enter (vs:=[_,_]) func53 z ntmps53 z fun a k=>?_
 have m:=St.start w0
 obtain ⟨v6,F7,v8,F9,Ao,Aw,rfl,rfl,Bd,Ab,Ax⟩:=Ai
 unfold d_impl_TypeById at h
 refine wr (s_box (cs:=[I r1.fWay,I r1.fPallet.fW,I r1.fPallet.fD,I r1.fPallet.fH,I r1.fPallet.fGram,I r1.fClasses,v6,v8,I r1.fMaster,Ao]) m k z z z z z z fun As Ba a k m e Ae=>s_box (cs:=[I Ac]) m k z z z z z z fun Aj Ar a k m e Ah=>s_alloc (cs:=[I 0,I 0,I 0,I 0,I 0,I 0,I 0]) m k zeroValue79 z z z z z fun Au Ay a k m e Af=>pN 1 k z fun a k=>nn (wr (sv k z (r_fa fa38_4 k z z) fun a k=>sv k z (r_ldb t135 m 2 Ae 7 k z z z z z) fun a k=>pN 1 k z fun a k=>oE h fun Bc Am h=>?_)))
 refine cE k m call145 z z z (c_slices_IndexFunc_impl_Type_impl_Type fu _ _ (Enc.rd_agr Ab (m.a00 (Enc.rd_lt Ab))) ⟨146,[.pointer (some (⟨Aj,0,none⟩:Addr))],z,call146,fun w Av Bb r e Al hx=>by subst Al; have m:=m.step e; exact c_impl_TypeById_1 fu _ _ (Ah.agr (m.a 1 rfl) (by simp)) hx⟩ Am) fun Be e a k m=>pN 1 k rfl fun a k=>nn (wp_seq (wr (pN 2 k rfl fun a k=>nn (cI h k rfl (fun Aq h=>?_) fun Aq h=>?_))))
 · refine wr (sv k z (r_build bt79 k (cs:=#[I 0,I 0,I 0,I 0,I 0,I 0,I 0]) (ps:=[]) z z (by kernel_rfl)) fun a k=>s_stb (cs':=[I 0,I 0,I 0,I 0,I 0,I 0,I 0]) sizeOf79 m 0 Af 0 k z z z z z z z z z z z fun At a k e m Ap=>pN 1 k z fun a k=>nn (wp_ret (rt_then ?_)))
   cases h
   exact finR2 k z (RV.cA k z ta79 (Ap.at (m.a 0 z) 0 7 z z z) z) (RV.tmp k z) ⟨z,m.ext⟩
 refine wp_skip (nm_then ?_)
 refine wr (sv k z (r_fa fa38_4 k z z) fun a k=>sv k z (r_ldb t135 m 2 Ae 7 k z z z z z) fun a k=>pN 1 k z fun a k=>oE h fun Aa Ad h=>sv k z (r_ixa Ab Ad k ts35 z z z) fun a k=>sv k z (r_lde Ab (m.a00 (Enc.rd_lt Ab)) Ad ta79 k z z) fun a k=>s_stb (cs':=[I Aa.fId,I Aa.fW,I Aa.fH,I Aa.fD,I Aa.fTare,I Aa.fGram,I Aa.fCost]) sizeOf79 m 0 Af 0 k z z z z z z z z z z z fun Az a k e m Ak=>pN 1 k z fun a k=>nn (wp_ret ?_))
 cases h
 exact finR2 k z (RV.cA k z ta79 (Ak.at (m.a 0 z) 0 7 z z z) z) (RV.tmp k z) ⟨z,m.ext⟩
theorem c_impl_MasterOf (fu:Nat) {w0:World} (r1:Request) {Ac:List Value} {F3:List Nat} (Ai:rd w0 F3 Ac r1) {r:Typ × Bool}
    (h:d_impl_MasterOf fu r1 = some r) :
    Calls Tryz.prog 250 #[.agg Ac.toArray] w0 fun e w=>e = .returned (.tuple #[.agg (Flat.e r.1).toArray,.bool (r.2)]) ∧ Ext [] w0 w:=by
 refine enter (vs:=[_]) func250 z ntmps250 z fun a k=>?_
 have m:=St.start w0
 obtain ⟨v5,F6,v7,F8,v9,Ao,rfl,rfl,Ae,Ad,Ab⟩:=Ai
 unfold d_impl_MasterOf at h
 refine wr (s_box (cs:=[I r1.fWay,I r1.fPallet.fW,I r1.fPallet.fD,I r1.fPallet.fH,I r1.fPallet.fGram,I r1.fClasses,v5,v7,I r1.fMaster,v9]) m k z z z z z z fun Am Ap a k m e Af=>s_alloc (cs:=[I 0,I 0,I 0,I 0,I 0,I 0,I 0]) m k zeroValue79 z z z z z fun Aq Ak a k m e Aj=>pN 1 k z fun a k=>nn (wr (sv k z (r_ldB ta38 m 1 Af 0 k z z z z z z) fun a k=>sv k z (r_fa fa38_5 k z z) fun a k=>sv k z (r_ldb t13 m 1 Af 8 k z z z z z) fun a k=>oE h fun Aa Ah h=>?_)))
 refine cE k m call53 z z z (c_impl_TypeById fu _ _ (show rd _ _ [I r1.fWay,I r1.fPallet.fW,I r1.fPallet.fD,I r1.fPallet.fH,I r1.fPallet.fGram,I r1.fClasses,v5,v7,I r1.fMaster,v9] (r1:Request) from ⟨_,_,_,_,_,_,z,z,(Enc.rd_agr Ae (m.a00 (Enc.rd_lt Ae))),(Enc.rd_agr Ad (m.a00 (Enc.rd_lt Ad))),(Enc.rd_agr Ab (m.a00 (Enc.rd_lt Ab)))⟩) Ah) fun Al e a k m=>pN 2 k z fun a k=>s_stb (cs':=[I Aa.1.fId,I Aa.1.fW,I Aa.1.fH,I Aa.1.fD,I Aa.1.fTare,I Aa.1.fGram,I Aa.1.fCost]) sizeOf79 m 0 Aj 0 k z z z z z z z z z z z fun Ar a k e m Ag=>pN 1 k z fun a k=>nn (wp_ret ?_)
 cases h
 exact finR2 k z (RV.cA k z ta79 (Ag.at (m.a 0 z) 0 7 z z z) z) (RV.tmp k z) ⟨z,m.ext⟩
theorem c_impl_in (fu:Nat) {w0:World} (n1:Int) (Ab:Int) (Ac:Int)  {r:Bool}
    (h:d_impl_in fu n1 Ab Ac = some r) :
    Calls Tryz.prog 139 #[I n1,I Ab,I Ac] w0 fun e w=>e = .returned (.bool (r)) ∧ Ext [] w0 w:=by
 refine enter (vs:=[_,_,_]) func139 z ntmps139 z fun a k=>?_
 have m:=St.start w0
 unfold d_impl_in at h
 refine wr (pN 1 k z fun a k=>nn (wr (pN 4 k z fun a k=>bsplit (decide (n1 ≥ Ab)) (fun Aa=>?_) (fun Aa=>?_))))
 · have h:=bif_t Aa h
   refine rB k 10 z Aa fun k=>pN 5 k z fun a k=>nn (wp_ret (fS h k m z z))
 have h:=bif_f Aa h
 refine rB k 10 z Aa fun k=>pN 5 k z fun a k=>nn (wp_ret (fS h k m z z))
theorem c_impl_isSide (fu:Nat) {w0:World} (n1:Int)  {r:Bool}
    (h:d_impl_isSide fu n1 = some r) :
    Calls Tryz.prog 154 #[I n1] w0 fun e w=>e = .returned (.bool (r)) ∧ Ext [] w0 w:=by
 refine enter (vs:=[_]) func154 z ntmps154 z fun a k=>?_
 have m:=St.start w0
 unfold d_impl_isSide at h
 refine wr (pN 1 k z fun a k=>nn (wr (pN 1 k z fun a k=>oE h fun x2 Aa h=>cE k m call139 z z z (c_impl_in fu _ _ _  Aa) fun w5 e a k m=>pN 1 k z fun a k=>nn (wp_ret (fS h k m z z)))))
theorem c_impl_PalletOk (fu:Nat) {w0:World} (x1:Pallet)  {r:Bool}
    (h:d_impl_PalletOk fu x1 = some r) :
    Calls Tryz.prog 303 #[.agg (Flat.e (x1)).toArray] w0 fun e w=>e = .returned (.bool (r)) ∧ Ext [] w0 w:=by
 refine enter (vs:=[_]) func303 z ntmps303 z fun a k=>?_
 have m:=St.start w0
 unfold d_impl_PalletOk at h
 refine wr (s_box (cs:=[I x1.fW,I x1.fD,I x1.fH,I x1.fGram]) m k z z z z z z fun b2 w4 a k m e Ad=>pN 1 k z fun a k=>nn (wr (sv k z (r_fa fa33_0 k z z) fun a k=>sv k z (r_ldb t13 m 0 Ad 0 k z z z z z) fun a k=>oE h fun x5 Aj h=>cE k m call154 z z z (c_impl_isSide fu _  Aj) fun w9 e a k m=>pN 1 k z fun a k=>bsplit (x5) (fun Ab=>?_) (fun Ab=>?_))))
 · have h:=bif_t Ab h
   refine rB k 6 z Ab fun k=>sv k z (r_fa fa33_1 k z z) fun a k=>sv k z (r_ldb t13 m 0 Ad 1 k z z z z z) fun a k=>oE h fun Ae Ag h=>cE k m call154 z z z (c_impl_isSide fu _  Ag) fun Ak e a k m=>pN 2 k z fun a k=>bsplit (Ae) (fun Ac=>?_) (fun Ac=>?_)
   · have h:=bif_t Ac h
     refine rB k 11 z Ac fun k=>sv k z (r_fa fa33_2 k z z) fun a k=>sv k z (r_ldb t13 m 0 Ad 2 k z z z z z) fun a k=>oE h fun Ah Af h=>cE k m call154 z z z (c_impl_isSide fu _  Af) fun Al e a k m=>pN 2 k z fun a k=>bsplit (Ah) (fun Aa=>?_) (fun Aa=>?_)
     · have h:=bif_t Aa h
       refine rB k 16 z Aa fun k=>sv k z (r_fa fa33_3 k z z) fun a k=>sv k z (r_ldb t13 m 0 Ad 3 k z z z z z) fun a k=>oE h fun Am Ai h=>cE k m call139 z z z (c_impl_in fu _ _ _  Ai) fun Ao e a k m=>pN 2 k z fun a k=>nn (wp_ret (fS h k m z z))
     have h:=bif_f Aa h
     refine rB k 16 z Aa fun k=>pN 5 k z fun a k=>nn (wp_ret (fS h k m z z))
   have h:=bif_f Ac h
   refine rB k 11 z Ac fun k=>pN 10 k z fun a k=>nn (wp_ret (fS h k m z z))
 have h:=bif_f Ab h
 refine rB k 6 z Ab fun k=>pN 15 k z fun a k=>nn (wp_ret (fS h k m z z))
theorem c_slices_IndexFunc_impl_Pair_impl_Pair (fu:Nat) {w0:World} (Ab:List Pair) (f5:Pair → Option Bool) {v2:Value} {F3:List Nat} (Ac:rd w0 F3 [v2] Ab) {v6:Value} (Ak:FnOk1 Tryz.prog w0 v6 f5) {r:Int}
    (h:d_slices_IndexFunc_impl_Pair_impl_Pair fu Ab f5 = some r) :
    Calls Tryz.prog 329 #[v2,v6] w0 fun e w=>e = .returned (I r) ∧ Ext [] w0 w:=by
 refine enter (vs:=[_,_]) func329 z ntmps329 z fun a k=>?_
 have m:=St.start w0
 obtain ⟨Aj,Ag,rfl,Ae,Ai⟩:=Ak
 unfold d_slices_IndexFunc_impl_Pair_impl_Pair at h
 refine wr (pN 1 k z fun a k=>nn (wp_seq (wr (pN 1 k z fun a k=>sv k z (r_len (α:=Pair) Ac k underlying34 z z) fun a k=>pN 1 k z fun a k=>nn (wp_block (c_loop (fun n a w=>∃ (Aa:Int),K 19 [(0,v2),(1,(.func (.func Aj) #[] Ag.toArray)),(7,I ((Ab.length:Int))),(8,I Aa)] a ∧ St [] w0 w [] ∧ d_slices_IndexFunc_impl_Pair_impl_Pair_L1 fu Ab f5 n Aa = some r) ?_ ?_ fu _ _ ?_))))))
 · rintro a w ⟨_,_,_,h⟩
   exact nS h
 · rintro Ar a As ⟨Aa,k,m,h⟩
   rw [d_slices_IndexFunc_impl_Pair_impl_Pair_L1_s] at h
   unfold d_slices_IndexFunc_impl_Pair_impl_Pair_L1_B at h
   refine wr (pN 1 k z fun a k=>nn (wp_seq (cI h k z (fun Af h=>?_) fun Af h=>?_)))
   · refine wp_skip (nm_then ?_)
     refine wp_seq (wp_block (wr (pN 2 k z fun a k=>nn (wr (pN 3 k z fun a k=>oE h fun Ap Ad h=>sv k z (r_ixa Ac Ad k ts34 z z z) fun a k=>sv k z (r_lde Ac (m.a00 (Enc.rd_lt Ac)) Ad ta180 k z z) fun a k=>oE h fun Aq Al h=>s_callv k Ae z z z z z z (Ai _ _ _ _ m.ext z Al) fun Ao Am hR=>?_)))))
     obtain ⟨rfl,e⟩:=hR
     refine ⟨_,z,fun a k=>?_⟩
     have m:=m.step e
     refine nn (cI h k z (fun Ah h=>?_) fun Ah h=>?_)
     · refine wr (pN 2 k z fun a k=>nn (wp_ret (rt_block (rt_then (rt_then (rt_block (rt_then ?_)))))))
       refine fS h k m z z
     refine wp_skip (nm_block (nm_then ?_))
     refine wp_region_lit (pN 2 k z fun a k=>nn ?_)
     exact ⟨w64 (Aa + 1),k.keep [0,1,7,8] z,m.sel [] z (by decide),h⟩
   refine wp_exit (ex_then (ex_then (ex_same (nm_then ?_))))
   refine wr (pN 1 k z fun a k=>nn (wp_ret (fS h k m z z)))
 exact ⟨0,k.keep [0,1,7,8] z,m.sel [] z (by decide),h⟩
theorem c_slices_ContainsFunc_impl_Pair_impl_Pair (fu:Nat) {w0:World} (Aa:List Pair) (f5:Pair → Option Bool) {v2:Value} {F3:List Nat} (Ab:rd w0 F3 [v2] Aa) {v6:Value} (Ah:FnOk1 Tryz.prog w0 v6 f5) {r:Bool}
    (h:d_slices_ContainsFunc_impl_Pair_impl_Pair fu Aa f5 = some r) :
    Calls Tryz.prog 304 #[v2,v6] w0 fun e w=>e = .returned (.bool (r)) ∧ Ext [] w0 w:=by
 refine enter (vs:=[_,_]) func304 z ntmps304 z fun a k=>?_
 have m:=St.start w0
 obtain ⟨Aj,Ai,rfl,Ad,Af⟩:=Ah
 unfold d_slices_ContainsFunc_impl_Pair_impl_Pair at h
 refine wr (pN 1 k z fun a k=>nn (wr (pN 2 k z fun a k=>oE h fun Ak Ae h=>cE k m call329 z z z (c_slices_IndexFunc_impl_Pair_impl_Pair fu _ _ (Enc.rd_agr Ab (m.a00 (Enc.rd_lt Ab))) ⟨_,_,z,Ad,fun w Ac Ag r e=>Af w Ac Ag r (m.ext.trans e (by simp))⟩ Ae) fun Al e a k m=>pN 2 k z fun a k=>nn (wp_ret (fS h k m z z)))))
theorem c_impl_BoundsOk_1 (fu:Nat) {w0:World} (p1:Pair)  {r:Bool}
    (h:d_impl_BoundsOk_1 fu p1 = some r) :
    Calls Tryz.prog 305 #[.agg (Flat.e (p1)).toArray] w0 fun e w=>e = .returned (.bool (r)) ∧ Ext [] w0 w:=by
 refine enter (vs:=[_]) func305 z ntmps305 z fun a k=>?_
 have m:=St.start w0
 unfold d_impl_BoundsOk_1 at h
 refine wr (s_box (cs:=[I p1.fA,I p1.fB]) m k z z z z z z fun b2 w4 a k m e Ab=>pN 1 k z fun a k=>nn (wr (sv k z (r_fa fa180_0 k z z) fun a k=>sv k z (r_ldb t13 m 0 Ab 0 k z z z z z) fun a k=>oE h fun x5 Ad h=>cE k m call139 z z z (c_impl_in fu _ _ _  Ad) fun w9 e a k m=>pN 2 k z fun a k=>bsplit (!x5) (fun Aa=>?_) (fun Aa=>?_))))
 · have h:=bif_t Aa h
   refine rB k 7 z Aa fun k=>pN 6 k z fun a k=>nn (wp_ret (fS h k m z z))
 have h:=bif_f Aa h
 refine rB k 7 z Aa fun k=>sv k z (r_fa fa180_1 k z z) fun a k=>sv k z (r_ldb t13 m 0 Ab 1 k z z z z z) fun a k=>oE h fun Ae Ac h=>cE k m call139 z z z (c_impl_in fu _ _ _  Ac) fun Af e a k m=>pN 3 k z fun a k=>nn (wp_ret (fS h k m z z))
theorem c_slices_ContainsFunc_impl_Type_impl_Type (fu:Nat) {w0:World} (Aa:List Typ) (f5:Typ → Option Bool) {v2:Value} {F3:List Nat} (Ab:rd w0 F3 [v2] Aa) {v6:Value} (Ah:FnOk1 Tryz.prog w0 v6 f5) {r:Bool}
    (h:d_slices_ContainsFunc_impl_Type_impl_Type fu Aa f5 = some r) :
    Calls Tryz.prog 275 #[v2,v6] w0 fun e w=>e = .returned (.bool (r)) ∧ Ext [] w0 w:=by
 refine enter (vs:=[_,_]) func275 z ntmps275 z fun a k=>?_
 have m:=St.start w0
 obtain ⟨Aj,Ai,rfl,Ad,Af⟩:=Ah
 unfold d_slices_ContainsFunc_impl_Type_impl_Type at h
 refine wr (pN 1 k z fun a k=>nn (wr (pN 2 k z fun a k=>oE h fun Ak Ae h=>cE k m call145 z z z (c_slices_IndexFunc_impl_Type_impl_Type fu _ _ (Enc.rd_agr Ab (m.a00 (Enc.rd_lt Ab))) ⟨_,_,z,Ad,fun w Ac Ag r e=>Af w Ac Ag r (m.ext.trans e (by simp))⟩ Ae) fun Al e a k m=>pN 2 k z fun a k=>nn (wp_ret (fS h k m z z)))))
theorem c_impl_TypeOk (fu:Nat) {w0:World} (x1:Typ)  {r:Bool}
    (h:d_impl_TypeOk fu x1 = some r) :
    Calls Tryz.prog 307 #[.agg (Flat.e (x1)).toArray] w0 fun e w=>e = .returned (.bool (r)) ∧ Ext [] w0 w:=by
 refine enter (vs:=[_]) func307 z ntmps307 z fun a k=>?_
 have m:=St.start w0
 unfold d_impl_TypeOk at h
 refine wr (s_box (cs:=[I x1.fId,I x1.fW,I x1.fH,I x1.fD,I x1.fTare,I x1.fGram,I x1.fCost]) m k z z z z z z fun b2 w4 a k m e Aa=>pN 1 k z fun a k=>nn (wr (sv k z (r_fa fa79_0 k z z) fun a k=>sv k z (r_ldb t13 m 0 Aa 0 k z z z z z) fun a k=>oE h fun x5 As h=>cE k m call139 z z z (c_impl_in fu _ _ _  As) fun w9 e a k m=>pN 1 k z fun a k=>bsplit (x5) (fun Ad=>?_) (fun Ad=>?_))))
 · have h:=bif_t Ad h
   refine rB k 6 z Ad fun k=>sv k z (r_fa fa79_1 k z z) fun a k=>sv k z (r_ldb t13 m 0 Aa 1 k z z z z z) fun a k=>oE h fun Am Ap h=>cE k m call154 z z z (c_impl_isSide fu _  Ap) fun Au e a k m=>pN 2 k z fun a k=>bsplit (Am) (fun Ae=>?_) (fun Ae=>?_)
   · have h:=bif_t Ae h
     refine rB k 11 z Ae fun k=>sv k z (r_fa fa79_2 k z z) fun a k=>sv k z (r_ldb t13 m 0 Aa 2 k z z z z z) fun a k=>oE h fun Ar Ah h=>cE k m call154 z z z (c_impl_isSide fu _  Ah) fun Ba e a k m=>pN 2 k z fun a k=>bsplit (Ar) (fun Ab=>?_) (fun Ab=>?_)
     · have h:=bif_t Ab h
       refine rB k 16 z Ab fun k=>sv k z (r_fa fa79_3 k z z) fun a k=>sv k z (r_ldb t13 m 0 Aa 3 k z z z z z) fun a k=>oE h fun Aj Aq h=>cE k m call154 z z z (c_impl_isSide fu _  Aq) fun Ay e a k m=>pN 2 k z fun a k=>bsplit (Aj) (fun Af=>?_) (fun Af=>?_)
       · have h:=bif_t Af h
         refine rB k 21 z Af fun k=>sv k z (r_fa fa79_4 k z z) fun a k=>sv k z (r_ldb t13 m 0 Aa 4 k z z z z z) fun a k=>oE h fun Ao At h=>cE k m call139 z z z (c_impl_in fu _ _ _  At) fun Aw e a k m=>pN 2 k z fun a k=>bsplit (Ao) (fun Ac=>?_) (fun Ac=>?_)
         · have h:=bif_t Ac h
           refine rB k 26 z Ac fun k=>sv k z (r_fa fa79_5 k z z) fun a k=>sv k z (r_ldb t13 m 0 Aa 5 k z z z z z) fun a k=>oE h fun Al Ai h=>cE k m call139 z z z (c_impl_in fu _ _ _  Ai) fun Az e a k m=>pN 2 k z fun a k=>bsplit (Al) (fun Ag=>?_) (fun Ag=>?_)
           · have h:=bif_t Ag h
             refine rB k 31 z Ag fun k=>sv k z (r_fa fa79_6 k z z) fun a k=>sv k z (r_ldb t13 m 0 Aa 6 k z z z z z) fun a k=>oE h fun Av Ak h=>cE k m call139 z z z (c_impl_in fu _ _ _  Ak) fun Ax e a k m=>pN 2 k z fun a k=>?_
             have k:=k.keep [2] z
             refine nn (wp_ret (fS h k m z z))
           have h:=bif_f Ag h
           refine rB k 31 z Ag fun k=>pN 5 k z fun a k=>?_
           have k:=k.keep [2] z
           refine nn (wp_ret (fS h k m z z))
         have h:=bif_f Ac h
         refine rB k 26 z Ac fun k=>pN 10 k z fun a k=>?_
         have k:=k.keep [2] z
         refine nn (wp_ret (fS h k m z z))
       have h:=bif_f Af h
       refine rB k 21 z Af fun k=>pN 15 k z fun a k=>?_
       have k:=k.keep [2] z
       refine nn (wp_ret (fS h k m z z))
     have h:=bif_f Ab h
     refine rB k 16 z Ab fun k=>pN 20 k z fun a k=>?_
     have k:=k.keep [2] z
     refine nn (wp_ret (fS h k m z z))
   have h:=bif_f Ae h
   refine rB k 11 z Ae fun k=>pN 25 k z fun a k=>?_
   have k:=k.keep [2] z
   refine nn (wp_ret (fS h k m z z))
 have h:=bif_f Ad h
 refine rB k 6 z Ad fun k=>pN 30 k z fun a k=>?_
 have k:=k.keep [2] z
 refine nn (wp_ret (fS h k m z z))
theorem c_impl_BoundsOk_2 (fu:Nat) {w0:World} (t1:Typ)  {r:Bool}
    (h:d_impl_BoundsOk_2 fu t1 = some r) :
    Calls Tryz.prog 306 #[.agg (Flat.e (t1)).toArray] w0 fun e w=>e = .returned (.bool (r)) ∧ Ext [] w0 w:=by
 refine enter (vs:=[_]) func306 z ntmps306 z fun a k=>?_
 have m:=St.start w0
 unfold d_impl_BoundsOk_2 at h
 refine wr (s_box (cs:=[I t1.fId,I t1.fW,I t1.fH,I t1.fD,I t1.fTare,I t1.fGram,I t1.fCost]) m k z z z z z z fun b2 w4 a k m e Aa=>pN 1 k z fun a k=>nn (wr (sv k z (r_ldB ta79 m 0 Aa 0 k z z z z z z) fun a k=>oE h fun x5 Ab h=>cE k m call307 z z z (c_impl_TypeOk fu (t1:Typ)  Ab) fun w9 e a k m=>pN 2 k z fun a k=>nn (wp_ret (fS h k m z z)))))
theorem c_impl_ItemOk (fu:Nat) {w0:World} (x1:Item)  {r:Bool}
    (h:d_impl_ItemOk fu x1 = some r) :
    Calls Tryz.prog 308 #[.agg (Flat.e (x1)).toArray] w0 fun e w=>e = .returned (.bool (r)) ∧ Ext [] w0 w:=by
 refine enter (vs:=[_]) func308 z ntmps308 z fun a k=>?_
 have m:=St.start w0
 unfold d_impl_ItemOk at h
 refine wr (s_box (cs:=[I x1.fId,I x1.fW,I x1.fH,I x1.fD,I x1.fGram,I x1.fClass,I x1.fCount]) m k z z z z z z fun b2 w4 a k m e Aa=>pN 1 k z fun a k=>nn (wr (sv k z (r_fa fa158_0 k z z) fun a k=>sv k z (r_ldb t13 m 0 Aa 0 k z z z z z) fun a k=>oE h fun x5 As h=>cE k m call139 z z z (c_impl_in fu _ _ _  As) fun w9 e a k m=>pN 1 k z fun a k=>bsplit (x5) (fun Ad=>?_) (fun Ad=>?_))))
 · have h:=bif_t Ad h
   refine rB k 6 z Ad fun k=>sv k z (r_fa fa158_1 k z z) fun a k=>sv k z (r_ldb t13 m 0 Aa 1 k z z z z z) fun a k=>oE h fun Am Ap h=>cE k m call154 z z z (c_impl_isSide fu _  Ap) fun Au e a k m=>pN 2 k z fun a k=>bsplit (Am) (fun Ae=>?_) (fun Ae=>?_)
   · have h:=bif_t Ae h
     refine rB k 11 z Ae fun k=>sv k z (r_fa fa158_2 k z z) fun a k=>sv k z (r_ldb t13 m 0 Aa 2 k z z z z z) fun a k=>oE h fun Ar Ah h=>cE k m call154 z z z (c_impl_isSide fu _  Ah) fun Ba e a k m=>pN 2 k z fun a k=>bsplit (Ar) (fun Ab=>?_) (fun Ab=>?_)
     · have h:=bif_t Ab h
       refine rB k 16 z Ab fun k=>sv k z (r_fa fa158_3 k z z) fun a k=>sv k z (r_ldb t13 m 0 Aa 3 k z z z z z) fun a k=>oE h fun Aj Aq h=>cE k m call154 z z z (c_impl_isSide fu _  Aq) fun Ay e a k m=>pN 2 k z fun a k=>bsplit (Aj) (fun Af=>?_) (fun Af=>?_)
       · have h:=bif_t Af h
         refine rB k 21 z Af fun k=>sv k z (r_fa fa158_4 k z z) fun a k=>sv k z (r_ldb t13 m 0 Aa 4 k z z z z z) fun a k=>oE h fun Ao At h=>cE k m call139 z z z (c_impl_in fu _ _ _  At) fun Aw e a k m=>pN 2 k z fun a k=>bsplit (Ao) (fun Ac=>?_) (fun Ac=>?_)
         · have h:=bif_t Ac h
           refine rB k 26 z Ac fun k=>sv k z (r_fa fa158_5 k z z) fun a k=>sv k z (r_ldb t13 m 0 Aa 5 k z z z z z) fun a k=>oE h fun Al Ai h=>cE k m call139 z z z (c_impl_in fu _ _ _  Ai) fun Az e a k m=>pN 2 k z fun a k=>bsplit (Al) (fun Ag=>?_) (fun Ag=>?_)
           · have h:=bif_t Ag h
             refine rB k 31 z Ag fun k=>sv k z (r_fa fa158_6 k z z) fun a k=>sv k z (r_ldb t13 m 0 Aa 6 k z z z z z) fun a k=>oE h fun Av Ak h=>cE k m call139 z z z (c_impl_in fu _ _ _  Ak) fun Ax e a k m=>pN 2 k z fun a k=>?_
             have k:=k.keep [2] z
             refine nn (wp_ret (fS h k m z z))
           have h:=bif_f Ag h
           refine rB k 31 z Ag fun k=>pN 5 k z fun a k=>?_
           have k:=k.keep [2] z
           refine nn (wp_ret (fS h k m z z))
         have h:=bif_f Ac h
         refine rB k 26 z Ac fun k=>pN 10 k z fun a k=>?_
         have k:=k.keep [2] z
         refine nn (wp_ret (fS h k m z z))
       have h:=bif_f Af h
       refine rB k 21 z Af fun k=>pN 15 k z fun a k=>?_
       have k:=k.keep [2] z
       refine nn (wp_ret (fS h k m z z))
     have h:=bif_f Ab h
     refine rB k 16 z Ab fun k=>pN 20 k z fun a k=>?_
     have k:=k.keep [2] z
     refine nn (wp_ret (fS h k m z z))
   have h:=bif_f Ae h
   refine rB k 11 z Ae fun k=>pN 25 k z fun a k=>?_
   have k:=k.keep [2] z
   refine nn (wp_ret (fS h k m z z))
 have h:=bif_f Ad h
 refine rB k 6 z Ad fun k=>pN 30 k z fun a k=>?_
 have k:=k.keep [2] z
 refine nn (wp_ret (fS h k m z z))
theorem c_impl_BoundsOk (fu:Nat) {w0:World} (r1:Request) {Ar:List Value} {F3:List Nat} (Aw:rd w0 F3 Ar r1) {r:Bool}
    (h:d_impl_BoundsOk fu r1 = some r) :
    Calls Tryz.prog 271 #[.agg Ar.toArray] w0 fun e w=>e = .returned (.bool (r)) ∧ Ext [] w0 w:=by
 refine enter (vs:=[_]) func271 z ntmps271 z fun a k=>?_
 have m:=St.start w0
 obtain ⟨v5,F6,v7,F8,v9,Cd,rfl,rfl,Am,Ao,Ae⟩:=Aw
 unfold d_impl_BoundsOk at h
 refine wr (s_box (cs:=[I r1.fWay,I r1.fPallet.fW,I r1.fPallet.fD,I r1.fPallet.fH,I r1.fPallet.fGram,I r1.fClasses,v5,v7,I r1.fMaster,v9]) m k z z z z z z fun Aj Aq a k m e Aa=>pN 1 k z fun a k=>nn (c_cut (fun a w=>K 70 [(1,.pointer (some (⟨Aj,0,none⟩:Addr)))] a ∧ St [] w0 w [([Aj],Aq)] ∧ d_impl_BoundsOk_J2 fu r1 = some r) ?_ ?_))
 · rintro a Bv ⟨k,m,h⟩
   unfold d_impl_BoundsOk_J2 at h
   refine wp_seq (wr (sv k z (r_fa fa38_3 k z z) fun a k=>sv k z (r_ldb t134 m 0 Aa 6 k z z z z z) fun a k=>oE h fun Ch Az h=>cE k m call304 z z z (c_slices_ContainsFunc_impl_Pair_impl_Pair fu _ _ (Enc.rd_agr Am (m.a00 (Enc.rd_lt Am))) ⟨305,[],z,call305,fun w Cf Br r e Bi hx=>by subst Bi; have m:=m.step e; exact c_impl_BoundsOk_1 fu _  hx⟩ Az) fun By e a k m=>nn (cI h k rfl (fun Bh h=>?_) fun Bh h=>?_)))
   · refine wr (pN 1 k z fun a k=>nn (wp_ret (rt_then ?_)))
     refine fS h k m z z
   refine wp_skip (nm_then ?_)
   refine c_cut (fun a w=>K 70 [(1,.pointer (some (⟨Aj,0,none⟩:Addr)))] a ∧ St [] w0 w [([Aj],Aq)] ∧ d_impl_BoundsOk_J1 fu r1 = some r) ?_ ?_
   · rintro a Cc ⟨k,m,h⟩
     unfold d_impl_BoundsOk_J1 at h
     refine wr (pN 1 k z fun a k=>nn (wp_seq (wr (sv k z (r_fa fa38_6 k z z) fun a k=>sv k z (r_ldb t136 m 0 Aa 9 k z z z z z) fun a k=>sv k z (r_len (α:=Item) Ae k underlying36 z z) fun a k=>pN 1 k z fun a k=>nn (wp_block (c_loop (fun n a w=>∃ (Al:Int) (Ak:Int),K 70 [(3,I Al),(54,v9),(55,I ((r1.fItems.length:Int))),(56,I Ak)] a ∧ St [] w0 w [] ∧ d_impl_BoundsOk_L1 fu r1 n Al Ak = some r) ?_ ?_ fu _ _ ?_))))))
     · rintro a w ⟨_,_,_,_,h⟩
       exact nS h
     · rintro Cb a Cg ⟨Al,Ak,k,m,h⟩
       rw [d_impl_BoundsOk_L1_s] at h
       unfold d_impl_BoundsOk_L1_B at h
       refine wr (pN 1 k z fun a k=>nn (wp_seq (cI h k z (fun Bf h=>?_) fun Bf h=>?_)))
       · refine wp_skip (nm_then ?_)
         refine wp_seq (wp_block (wr (oE h fun Ab As h=>sv k z (r_ixa Ae As k ts36 z z z) fun a k=>sv k z (r_lde Ae (m.a00 (Enc.rd_lt Ae)) As ta158 k z z) fun a k=>s_alloc (cs:=[I 0,I 0,I 0,I 0,I 0,I 0,I 0]) m k zeroValue158 z z z z z fun Bz Cl a k m e Bj=>s_stb (cs':=[I Ab.fId,I Ab.fW,I Ab.fH,I Ab.fD,I Ab.fGram,I Ab.fClass,I Ab.fCount]) sizeOf158 m 0 Bj 0 k z z z z z z z z z z z fun Bq a k e m Ap=>nn (wp_seq (wr (sv k z (r_ldB ta158 m 0 Ap 0 k z z z z z z) fun a k=>oE h fun Bw Bm h=>cE k m call308 z z z (c_impl_ItemOk fu (Ab:Item)  Bm) fun Bx e a k m=>?_))))))
         refine pN 1 k z fun a k=>nn (cI h k z (fun Bk h=>?_) fun Bk h=>?_)
         · refine wr (pN 1 k z fun a k=>nn (wp_ret (rt_then (rt_block (rt_then (rt_then (rt_block (rt_then ?_))))))))
           refine fS h k m z z
         refine wp_skip (nm_then ?_)
         refine wp_region_lit (pN 1 k z fun a k=>sv k z (r_fa fa158_6 k z z) fun a k=>sv k z (r_ldb t13 m 0 Ap 6 k z z z z z) fun a k=>pN 2 k z fun a k=>wpList_nil (nm_block (nm_then ?_)))
         refine wp_region_lit (pN 2 k z fun a k=>nn ?_)
         exact ⟨w64 (Al + Ab.fCount),w64 (Ak + 1),k.keep [3,54,55,56] z,m.sel [] z (by decide),h⟩
       refine wp_exit (ex_then (ex_then (ex_same (nm_then ?_))))
       refine wr (pN 3 k z fun a k=>nn (wp_ret (fS h k m z z)))
     exact ⟨0,0,k.keep [3,54,55,56] z,m.sel [] z (by decide),h⟩
   refine wr (sv k z (r_fa fa38_4 k z z) fun a k=>sv k z (r_ldb t135 m 0 Aa 7 k z z z z z) fun a k=>sv k z (r_len (α:=Typ) Ao k underlying35 z z) fun a k=>oE h fun At Au h=>cE k m call139 z z z (c_impl_in fu _ _ _  Au) fun Ck e a k m=>pN 2 k z fun a k=>bsplit (!At) (fun Af=>?_) (fun Af=>?_))
   · have h:=bif_t Af h
     refine rB k 36 z Af fun k=>pN 16 k z fun a k=>?_
     have k:=k.keep [1,52] z
     refine nn (wp_cond_true (k.ev z) (wr (pN 1 k z fun a k=>nn (wp_ret (rt_then ?_)))))
     refine fS h k m z z
   have h:=bif_f Af h
   refine rB k 36 z Af fun k=>sv k z (r_fa fa38_4 k z z) fun a k=>sv k z (r_ldb t135 m 0 Aa 7 k z z z z z) fun a k=>oE h fun Bd Av h=>cE k m call275 z z z (c_slices_ContainsFunc_impl_Type_impl_Type fu _ _ (Enc.rd_agr Ao (m.a00 (Enc.rd_lt Ao))) ⟨306,[],z,call306,fun w Ca Ci r e Bp hx=>by subst Bp; have m:=m.step e; exact c_impl_BoundsOk_2 fu _  hx⟩ Av) fun Cj e a k m=>pN 2 k rfl fun a k=>bsplit (Bd) (fun Ah=>?_) (fun Ah=>?_)
   · have h:=bif_t Ah h
     refine rB k 41 z Ah fun k=>pN 11 k z fun a k=>?_
     have k:=k.keep [1,52] z
     refine nn (wp_cond_true (k.ev z) (wr (pN 1 k z fun a k=>nn (wp_ret (rt_then ?_)))))
     refine fS h k m z z
   have h:=bif_f Ah h
   refine rB k 41 z Ah fun k=>sv k z (r_fa fa38_5 k z z) fun a k=>sv k z (r_ldb t13 m 0 Aa 8 k z z z z z) fun a k=>oE h fun Bn Bg h=>cE k m call139 z z z (c_impl_in fu _ _ _  Bg) fun Bs e a k m=>pN 3 k z fun a k=>bsplit (!Bn) (fun Ag=>?_) (fun Ag=>?_)
   · have h:=bif_t Ag h
     refine rB k 47 z Ag fun k=>pN 5 k z fun a k=>?_
     have k:=k.keep [1,52] z
     refine nn (wp_cond_true (k.ev z) (wr (pN 1 k z fun a k=>nn (wp_ret (rt_then ?_)))))
     refine fS h k m z z
   have h:=bif_f Ag h
   refine rB k 47 z Ag fun k=>sv k z (r_fa fa38_6 k z z) fun a k=>sv k z (r_ldb t136 m 0 Aa 9 k z z z z z) fun a k=>sv k z (r_len (α:=Item) Ae k underlying36 z z) fun a k=>pN 2 k z fun a k=>?_
   have k:=k.keep [1,52] z
   refine nn (cI h k z (fun Bo h=>?_) fun Bo h=>?_)
   · refine wr (pN 1 k z fun a k=>nn (wp_ret (rt_then ?_)))
     refine fS h k m z z
   refine wp_skip (nm_then ?_)
   exact ⟨k.keep [1] z,m.sel [0] z (by decide),h⟩
 refine wr (sv k z (r_fa fa38_0 k z z) fun a k=>sv k z (r_ldb t13 m 0 Aa 0 k z z z z z) fun a k=>oE h fun Bl Bc h=>cE k m call139 z z z (c_impl_in fu _ _ _  Bc) fun Ce e a k m=>pN 2 k z fun a k=>bsplit (!Bl) (fun Ac=>?_) (fun Ac=>?_))
 · have h:=bif_t Ac h
   refine rB k 10 z Ac fun k=>pN 17 k z fun a k=>nn (wp_cond_true (k.ev z) (wr (pN 1 k z fun a k=>?_)))
   have k:=k.keep [2] z
   refine nn (wp_ret (rt_then ?_))
   refine fS h k m z z
 have h:=bif_f Ac h
 refine rB k 10 z Ac fun k=>sv k z (r_fa fa38_1 k z z) fun a k=>sv k z (r_ldB ta33 m 0 Aa 1 k z z z z z z) fun a k=>oE h fun Ay Ax h=>cE k m call303 z z z (c_impl_PalletOk fu (r1.fPallet:Pallet)  Ax) fun Bu e a k m=>pN 3 k z fun a k=>bsplit (!Ay) (fun Ad=>?_) (fun Ad=>?_)
 · have h:=bif_t Ad h
   refine rB k 16 z Ad fun k=>pN 11 k z fun a k=>nn (wp_cond_true (k.ev z) (wr (pN 1 k z fun a k=>?_)))
   have k:=k.keep [2] z
   refine nn (wp_ret (rt_then ?_))
   refine fS h k m z z
 have h:=bif_f Ad h
 refine rB k 16 z Ad fun k=>sv k z (r_fa fa38_2 k z z) fun a k=>sv k z (r_ldb t13 m 0 Aa 5 k z z z z z) fun a k=>oE h fun Ba Be h=>cE k m call139 z z z (c_impl_in fu _ _ _  Be) fun Bt e a k m=>pN 3 k z fun a k=>bsplit (!Ba) (fun Ai=>?_) (fun Ai=>?_)
 · have h:=bif_t Ai h
   refine rB k 22 z Ai fun k=>pN 5 k z fun a k=>nn (wp_cond_true (k.ev z) (wr (pN 1 k z fun a k=>?_)))
   have k:=k.keep [2] z
   refine nn (wp_ret (rt_then ?_))
   refine fS h k m z z
 have h:=bif_f Ai h
 refine rB k 22 z Ai fun k=>sv k z (r_fa fa38_3 k z z) fun a k=>sv k z (r_ldb t134 m 0 Aa 6 k z z z z z) fun a k=>sv k z (r_len (α:=Pair) Am k underlying34 z z) fun a k=>pN 2 k z fun a k=>nn (cI h k z (fun Bb h=>?_) fun Bb h=>?_)
 · refine wr (pN 1 k z fun a k=>?_)
   have k:=k.keep [2] z
   refine nn (wp_ret (rt_then ?_))
   refine fS h k m z z
 refine wp_skip (nm_then ?_)
 exact ⟨k.keep [1] z,m.sel [0] z (by decide),h⟩
theorem c_impl_namesOk_1 (fu:Nat) {w0:World} (q1:Typ) (x2:Typ) {b3:Nat} (Aa:bx w0 b3 [I x2.fId,I x2.fW,I x2.fH,I x2.fD,I x2.fTare,I x2.fGram,I x2.fCost] 79) {r:Bool}
    (h:d_impl_namesOk_1 fu q1 x2 = some r) :
    Calls Tryz.prog 309 #[.agg (Flat.e (q1)).toArray,.pointer (some (⟨b3,0,none⟩:Addr))] w0 fun e w=>e = .returned (.bool (r)) ∧ Ext [] w0 w:=by
 refine enter (vs:=[_,_]) func309 z ntmps309 z fun a k=>?_
 have m:=St.start w0
 unfold d_impl_namesOk_1 at h
 refine wr (s_box (cs:=[I q1.fId,I q1.fW,I q1.fH,I q1.fD,I q1.fTare,I q1.fGram,I q1.fCost]) m k z z z z z z fun b5 w7 a k m e Ab=>pN 1 k z fun a k=>nn (wr (sv k z (r_fa fa79_0 k z z) fun a k=>sv k z (r_ldb t13 m 0 Ab 0 k z z z z z) fun a k=>sv k z (r_fa fa79_0 k z z) fun a k=>sv k z (r_ld1 t13 (r:=[]) (Aa.at (m.a00 Aa.lt1) 0 1 z z z) k z z) fun a k=>pN 2 k z fun a k=>nn (wp_ret (fS h k m z z)))))
theorem c_impl_namesOk_2 (fu:Nat) {w0:World} (q1:Item) (x2:Item) {b3:Nat} (Aa:bx w0 b3 [I x2.fId,I x2.fW,I x2.fH,I x2.fD,I x2.fGram,I x2.fClass,I x2.fCount] 158) {r:Bool}
    (h:d_impl_namesOk_2 fu q1 x2 = some r) :
    Calls Tryz.prog 310 #[.agg (Flat.e (q1)).toArray,.pointer (some (⟨b3,0,none⟩:Addr))] w0 fun e w=>e = .returned (.bool (r)) ∧ Ext [] w0 w:=by
 refine enter (vs:=[_,_]) func310 z ntmps310 z fun a k=>?_
 have m:=St.start w0
 unfold d_impl_namesOk_2 at h
 refine wr (s_box (cs:=[I q1.fId,I q1.fW,I q1.fH,I q1.fD,I q1.fGram,I q1.fClass,I q1.fCount]) m k z z z z z z fun b5 w7 a k m e Ab=>pN 1 k z fun a k=>nn (wr (sv k z (r_fa fa158_0 k z z) fun a k=>sv k z (r_ldb t13 m 0 Ab 0 k z z z z z) fun a k=>sv k z (r_fa fa158_0 k z z) fun a k=>sv k z (r_ld1 t13 (r:=[]) (Aa.at (m.a00 Aa.lt1) 0 1 z z z) k z z) fun a k=>pN 2 k z fun a k=>nn (wp_ret (fS h k m z z)))))
theorem c_slices_IndexFunc_impl_Item_impl_Item (fu:Nat) {w0:World} (Ab:List Item) (f5:Item → Option Bool) {v2:Value} {F3:List Nat} (Ac:rd w0 F3 [v2] Ab) {v6:Value} (Ak:FnOk1 Tryz.prog w0 v6 f5) {r:Int}
    (h:d_slices_IndexFunc_impl_Item_impl_Item fu Ab f5 = some r) :
    Calls Tryz.prog 239 #[v2,v6] w0 fun e w=>e = .returned (I r) ∧ Ext [] w0 w:=by
 refine enter (vs:=[_,_]) func239 z ntmps239 z fun a k=>?_
 have m:=St.start w0
 obtain ⟨Aj,Ag,rfl,Ae,Ai⟩:=Ak
 unfold d_slices_IndexFunc_impl_Item_impl_Item at h
 refine wr (pN 1 k z fun a k=>nn (wp_seq (wr (pN 1 k z fun a k=>sv k z (r_len (α:=Item) Ac k underlying36 z z) fun a k=>pN 1 k z fun a k=>nn (wp_block (c_loop (fun n a w=>∃ (Aa:Int),K 19 [(0,v2),(1,(.func (.func Aj) #[] Ag.toArray)),(7,I ((Ab.length:Int))),(8,I Aa)] a ∧ St [] w0 w [] ∧ d_slices_IndexFunc_impl_Item_impl_Item_L1 fu Ab f5 n Aa = some r) ?_ ?_ fu _ _ ?_))))))
 · rintro a w ⟨_,_,_,h⟩
   exact nS h
 · rintro Ar a As ⟨Aa,k,m,h⟩
   rw [d_slices_IndexFunc_impl_Item_impl_Item_L1_s] at h
   unfold d_slices_IndexFunc_impl_Item_impl_Item_L1_B at h
   refine wr (pN 1 k z fun a k=>nn (wp_seq (cI h k z (fun Af h=>?_) fun Af h=>?_)))
   · refine wp_skip (nm_then ?_)
     refine wp_seq (wp_block (wr (pN 2 k z fun a k=>nn (wr (pN 3 k z fun a k=>oE h fun Ap Ad h=>sv k z (r_ixa Ac Ad k ts36 z z z) fun a k=>sv k z (r_lde Ac (m.a00 (Enc.rd_lt Ac)) Ad ta158 k z z) fun a k=>oE h fun Aq Al h=>s_callv k Ae z z z z z z (Ai _ _ _ _ m.ext z Al) fun Ao Am hR=>?_)))))
     obtain ⟨rfl,e⟩:=hR
     refine ⟨_,z,fun a k=>?_⟩
     have m:=m.step e
     refine nn (cI h k z (fun Ah h=>?_) fun Ah h=>?_)
     · refine wr (pN 2 k z fun a k=>nn (wp_ret (rt_block (rt_then (rt_then (rt_block (rt_then ?_)))))))
       refine fS h k m z z
     refine wp_skip (nm_block (nm_then ?_))
     refine wp_region_lit (pN 2 k z fun a k=>nn ?_)
     exact ⟨w64 (Aa + 1),k.keep [0,1,7,8] z,m.sel [] z (by decide),h⟩
   refine wp_exit (ex_then (ex_then (ex_same (nm_then ?_))))
   refine wr (pN 1 k z fun a k=>nn (wp_ret (fS h k m z z)))
 exact ⟨0,k.keep [0,1,7,8] z,m.sel [] z (by decide),h⟩
theorem c_slices_ContainsFunc_impl_Item_impl_Item (fu:Nat) {w0:World} (Aa:List Item) (f5:Item → Option Bool) {v2:Value} {F3:List Nat} (Ab:rd w0 F3 [v2] Aa) {v6:Value} (Ah:FnOk1 Tryz.prog w0 v6 f5) {r:Bool}
    (h:d_slices_ContainsFunc_impl_Item_impl_Item fu Aa f5 = some r) :
    Calls Tryz.prog 148 #[v2,v6] w0 fun e w=>e = .returned (.bool (r)) ∧ Ext [] w0 w:=by
 refine enter (vs:=[_,_]) func148 z ntmps148 z fun a k=>?_
 have m:=St.start w0
 obtain ⟨Aj,Ai,rfl,Ad,Af⟩:=Ah
 unfold d_slices_ContainsFunc_impl_Item_impl_Item at h
 refine wr (pN 1 k z fun a k=>nn (wr (pN 2 k z fun a k=>oE h fun Ak Ae h=>cE k m call239 z z z (c_slices_IndexFunc_impl_Item_impl_Item fu _ _ (Enc.rd_agr Ab (m.a00 (Enc.rd_lt Ab))) ⟨_,_,z,Ad,fun w Ac Ag r e=>Af w Ac Ag r (m.ext.trans e (by simp))⟩ Ae) fun Al e a k m=>pN 2 k z fun a k=>nn (wp_ret (fS h k m z z)))))
theorem c_impl_namesOk_3 (fu:Nat) {w0:World} (p1:Pair) (x2:Request) {v5:Value} {F6:List Nat} {v8:Value} {F9:List Nat} {Ad:Value} {Ae:List Nat} {b3:Nat} (Ab:bx w0 b3 [I x2.fWay,I x2.fPallet.fW,I x2.fPallet.fD,I x2.fPallet.fH,I x2.fPallet.fGram,I x2.fClasses,v5,v8,I x2.fMaster,Ad] 38) (Af:rd w0 F6 [v5] x2.fPairs) (Ah:rd w0 F9 [v8] x2.fTypes) (Ag:rd w0 Ae [Ad] x2.fItems) {r:Bool}
    (h:d_impl_namesOk_3 fu p1 x2 = some r) :
    Calls Tryz.prog 311 #[.agg (Flat.e (p1)).toArray,.pointer (some (⟨b3,0,none⟩:Addr))] w0 fun e w=>e = .returned (.bool (r)) ∧ Ext [] w0 w:=by
 refine enter (vs:=[_,_]) func311 z ntmps311 z fun a k=>?_
 have m:=St.start w0
 unfold d_impl_namesOk_3 at h
 refine wr (s_box (cs:=[I p1.fA,I p1.fB]) m k z z z z z z fun Ai Aj a k m e Ac=>pN 1 k z fun a k=>nn (wr (sv k z (r_fa fa180_0 k z z) fun a k=>sv k z (r_ldb t13 m 0 Ac 0 k z z z z z) fun a k=>sv k z (r_fa fa38_2 k z z) fun a k=>sv k z (r_ld1 t13 (r:=[]) (Ab.at (m.a00 Ab.lt1) 5 1 z z z) k z z) fun a k=>pN 2 k z fun a k=>bsplit (decide (p1.fA ≥ x2.fClasses)) (fun Aa=>?_) (fun Aa=>?_))))
 · have h:=bif_t Aa h
   refine rB k 9 z Aa fun k=>pN 7 k z fun a k=>nn (wp_ret (fS h k m z z))
 have h:=bif_f Aa h
 refine rB k 9 z Aa fun k=>sv k z (r_fa fa180_1 k z z) fun a k=>sv k z (r_ldb t13 m 0 Ac 1 k z z z z z) fun a k=>sv k z (r_fa fa38_2 k z z) fun a k=>sv k z (r_ld1 t13 (r:=[]) (Ab.at (m.a00 Ab.lt1) 5 1 z z z) k z z) fun a k=>pN 3 k z fun a k=>nn (wp_ret (fS h k m z z))
theorem c_impl_namesOk (fu:Nat) {w0:World} (r1:Request) {As:List Value} {F3:List Nat} (Aw:rd w0 F3 As r1) {r:Bool}
    (h:d_impl_namesOk fu r1 = some r) :
    Calls Tryz.prog 272 #[.agg As.toArray] w0 fun e w=>e = .returned (.bool (r)) ∧ Ext [] w0 w:=by
 refine enter (vs:=[_]) func272 z ntmps272 z fun a k=>?_
 have m:=St.start w0
 obtain ⟨v5,F6,v7,F8,v9,Cc,rfl,rfl,Ah,Ab,Aa⟩:=Aw
 unfold d_impl_namesOk at h
 refine wr (s_box (cs:=[I r1.fWay,I r1.fPallet.fW,I r1.fPallet.fD,I r1.fPallet.fH,I r1.fPallet.fGram,I r1.fClasses,v5,v7,I r1.fMaster,v9]) m k z z z z z z fun Ag Am a k m e Ae=>pN 1 k z fun a k=>nn (wp_seq (wr (sv k z (r_fa fa38_4 k z z) fun a k=>sv k z (r_ldb t135 m 0 Ae 7 k z z z z z) fun a k=>sv k z (r_len (α:=Typ) Ab k underlying35 z z) fun a k=>pN 1 k z fun a k=>nn (wp_block (c_loop (fun n a w=>∃ (Al:Int),K 59 [(1,.pointer (some (⟨Ag,0,none⟩:Addr))),(10,v7),(11,I ((r1.fTypes.length:Int))),(12,I Al)] a ∧ St [] w0 w [([Ag],Am)] ∧ d_impl_namesOk_L2 fu r1 n Al = some r) ?_ ?_ fu _ _ ?_))))))
 · rintro a w ⟨_,_,_,h⟩
   exact nS h
 · rintro Bu a Cp ⟨Al,k,m,h⟩
   rw [d_impl_namesOk_L2_s] at h
   unfold d_impl_namesOk_L2_B at h
   refine wr (pN 1 k z fun a k=>nn (wp_seq (cI h k z (fun Ax h=>?_) fun Ax h=>?_)))
   · refine wp_skip (nm_then ?_)
     refine wp_seq (wp_block (wr (pN 1 k z fun a k=>oE h fun Af At h=>sv k z (r_ixa Ab At k ts35 z z z) fun a k=>sv k z (r_lde Ab (m.a00 (Enc.rd_lt Ab)) At ta79 k z z) fun a k=>s_alloc (cs:=[I 0,I 0,I 0,I 0,I 0,I 0,I 0]) m k zeroValue79 z z z z z fun Bo Cr a k m e Ay=>pN 1 k z fun a k=>s_stb (cs':=[I Af.fId,I Af.fW,I Af.fH,I Af.fD,I Af.fTare,I Af.fGram,I Af.fCost]) sizeOf79 m 0 Ay 0 k z z z z z z z z z z z fun Ch a k e m Bh=>nn (wr (sv k z (r_fa fa38_4 k z z) fun a k=>sv k z (r_ldb t135 m 1 Ae 7 k z z z z z) fun a k=>pN 1 k z fun a k=>oE h fun Bv Bf h=>?_)))))
     refine s_slTo Ab Bf k ts35 z z z z z z fun Bp a k Ao=>pN 1 k z fun a k=>oE h fun Cd Bg h=>cE k m call275 z z z (c_slices_ContainsFunc_impl_Type_impl_Type fu _ _ (Enc.rd_agr Ao (m.a00 (Enc.rd_lt Ao))) ⟨309,[.pointer (some (⟨Bo,0,none⟩:Addr))],z,call309,fun w Cn Bs r e Bj hx=>by subst Bj; have m:=m.step e; exact c_impl_namesOk_1 fu _ _ (Bh.agr (m.a 0 rfl) (by simp)) hx⟩ Bg) fun Cb e a k m=>nn (cI h k rfl (fun Bl h=>?_) fun Bl h=>?_)
     · refine wr (pN 1 k z fun a k=>nn (wp_ret (rt_block (rt_then (rt_then (rt_block (rt_then ?_)))))))
       refine fS h k m z z
     refine wp_skip (nm_block (nm_then ?_))
     refine wp_region_lit (pN 2 k z fun a k=>nn ?_)
     exact ⟨w64 (Al + 1),k.keep [1,10,11,12] z,m.sel [1] z (by decide),h⟩
   refine wp_exit (ex_then (ex_then (ex_same (nm_then ?_))))
   refine wp_seq (wr (sv k z (r_fa fa38_6 k z z) fun a k=>sv k z (r_ldb t136 m 0 Ae 9 k z z z z z) fun a k=>sv k z (r_len (α:=Item) Aa k underlying36 z z) fun a k=>pN 1 k z fun a k=>nn (wp_block (c_loop (fun n a w=>∃ (Ai:Int),K 59 [(1,.pointer (some (⟨Ag,0,none⟩:Addr))),(25,v9),(26,I ((r1.fItems.length:Int))),(27,I Ai)] a ∧ St [] w0 w [([Ag],Am)] ∧ d_impl_namesOk_L1 fu r1 n Ai = some r) ?_ ?_ fu _ _ ?_))))
   · rintro a w ⟨_,_,_,h⟩
     exact nS h
   · rintro Av a Cq ⟨Ai,k,m,h⟩
     rw [d_impl_namesOk_L1_s] at h
     unfold d_impl_namesOk_L1_B at h
     refine wr (pN 1 k z fun a k=>nn (wp_seq (cI h k z (fun Bc h=>?_) fun Bc h=>?_)))
     · refine wp_skip (nm_then ?_)
       refine c_cut (fun a w=>K 59 [(1,.pointer (some (⟨Ag,0,none⟩:Addr))),(25,v9),(26,I ((r1.fItems.length:Int))),(27,I Ai)] a ∧ St [] w0 w [([Ag],Am)] ∧ d_impl_namesOk_J1 fu (d_impl_namesOk_L1 fu r1 Av) Ai = some r) ?_ ?_
       · rintro a Br ⟨k,m,h⟩
         unfold d_impl_namesOk_J1 at h
         refine wp_region_lit (pN 2 k z fun a k=>nn ?_)
         exact ⟨w64 (Ai + 1),k.keep [1,25,26,27] z,m.sel [0] z (by decide),h⟩
       refine wp_block (wr (pN 1 k z fun a k=>oE h fun Ad Ap h=>sv k z (r_ixa Aa Ap k ts36 z z z) fun a k=>sv k z (r_lde Aa (m.a00 (Enc.rd_lt Aa)) Ap ta158 k z z) fun a k=>s_alloc (cs:=[I 0,I 0,I 0,I 0,I 0,I 0,I 0]) m k zeroValue158 z z z z z fun Bi Ci a k m e Az=>pN 1 k z fun a k=>s_stb (cs':=[I Ad.fId,I Ad.fW,I Ad.fH,I Ad.fD,I Ad.fGram,I Ad.fClass,I Ad.fCount]) sizeOf158 m 0 Az 0 k z z z z z z z z z z z fun Bw a k e m Aq=>nn (wr (sv k z (r_fa fa158_5 k z z) fun a k=>sv k z (r_ldb t13 m 0 Aq 5 k z z z z z) fun a k=>?_))))
       refine sv k z (r_fa fa38_2 k z z) fun a k=>sv k z (r_ldb t13 m 1 Ae 5 k z z z z z) fun a k=>pN 2 k z fun a k=>bsplit (decide (Ad.fClass ≥ r1.fClasses)) (fun Aj=>?_) (fun Aj=>?_)
       · have h:=bif_t Aj h
         refine rB k 37 z Aj fun k=>pN 7 k z fun a k=>nn (wp_cond_true (k.ev z) (wr (pN 1 k z fun a k=>nn (wp_ret (rt_block (rt_then (rt_then (rt_block (rt_then ?_)))))))))
         refine fS h k m z z
       have h:=bif_f Aj h
       refine rB k 37 z Aj fun k=>sv k z (r_fa fa38_6 k z z) fun a k=>sv k z (r_ldb t136 m 1 Ae 9 k z z z z z) fun a k=>pN 1 k z fun a k=>oE h fun Ce Bn h=>s_slTo Aa Bn k ts36 z z z z z z fun Ca a k Ar=>pN 1 k z fun a k=>oE h fun Cf Bk h=>cE k m call148 z z z (c_slices_ContainsFunc_impl_Item_impl_Item fu _ _ (Enc.rd_agr Ar (m.a00 (Enc.rd_lt Ar))) ⟨310,[.pointer (some (⟨Bi,0,none⟩:Addr))],z,call310,fun w Bz Bx r e Ba hx=>by subst Ba; have m:=m.step e; exact c_impl_namesOk_2 fu _ _ (Aq.agr (m.a 0 rfl) (by simp)) hx⟩ Bk) fun Cs e a k m=>pN 1 k rfl fun a k=>nn (cI h k rfl (fun Bd h=>?_) fun Bd h=>?_)
       · refine wr (pN 1 k z fun a k=>nn (wp_ret (rt_block (rt_then (rt_then (rt_block (rt_then ?_)))))))
         refine fS h k m z z
       refine wp_skip (nm_block (nm_then ?_))
       exact ⟨k.keep [1,25,26,27] z,m.sel [1] z (by decide),h⟩
     refine wp_exit (ex_then (ex_then (ex_same (nm_then ?_))))
     refine wr (sv k z (r_ldB ta38 m 0 Ae 0 k z z z z z z) fun a k=>oE h fun Ac Be h=>cE k m call250 z z z (c_impl_MasterOf fu _ (show rd _ _ [I r1.fWay,I r1.fPallet.fW,I r1.fPallet.fD,I r1.fPallet.fH,I r1.fPallet.fGram,I r1.fClasses,v5,v7,I r1.fMaster,v9] (r1:Request) from ⟨_,_,_,_,_,_,z,z,(Enc.rd_agr Ah (m.a00 (Enc.rd_lt Ah))),(Enc.rd_agr Ab (m.a00 (Enc.rd_lt Ab))),(Enc.rd_agr Aa (m.a00 (Enc.rd_lt Aa)))⟩) Be) fun Ck e a k m=>pN 3 k z fun a k=>s_alloc (cs:=[I 0,I 0,I 0,I 0,I 0,I 0,I 0]) m k zeroValue79 z z z z z fun Bq Bt a k m e Au=>?_)
     refine s_stb (cs':=[I Ac.1.fId,I Ac.1.fW,I Ac.1.fH,I Ac.1.fD,I Ac.1.fTare,I Ac.1.fGram,I Ac.1.fCost]) sizeOf79 m 0 Au 0 k z z z z z z z z z z z fun Cj a k e m Cg=>pN 1 k z fun a k=>nn (wr (pN 2 k z fun a k=>bsplit (Ac.2) (fun Ak=>?_) (fun Ak=>?_)))
     · have h:=bif_t Ak h
       refine rB k 52 z Ak fun k=>sv k z (r_fa fa38_3 k z z) fun a k=>sv k z (r_ldb t134 m 1 Ae 6 k z z z z z) fun a k=>pN 1 k z fun a k=>oE h fun Cm Bm h=>cE k m call304 z z z (c_slices_ContainsFunc_impl_Pair_impl_Pair fu _ _ (Enc.rd_agr Ah (m.a00 (Enc.rd_lt Ah))) ⟨311,[.pointer (some (⟨Ag,0,none⟩:Addr))],z,call311,fun w By Cl r e Bb hx=>by subst Bb; have m:=m.step e; exact c_impl_namesOk_3 fu _ _ (Ae.agr (m.a 1 rfl) (by simp)) (Enc.rd_agr Ah (m.a00 (Enc.rd_lt Ah))) (Enc.rd_agr Ab (m.a00 (Enc.rd_lt Ab))) (Enc.rd_agr Aa (m.a00 (Enc.rd_lt Aa))) hx⟩ Bm) fun Co e a k m=>pN 3 k rfl fun a k=>nn (wp_ret (fS h k m rfl rfl))
     have h:=bif_f Ak h
     refine rB k 52 z Ak fun k=>pN 7 k z fun a k=>nn (wp_ret (fS h k m z z))
   exact ⟨0,k.keep [1,25,26,27] z,m.sel [0] z (by decide),h⟩
 exact ⟨0,k.keep [1,10,11,12] z,m.sel [0] z (by decide),h⟩
theorem c_slices_Index_impl_Pair_impl_Pair (fu:Nat) {w0:World} (Ab:List Pair) (v5:Pair) {v2:Value} {F3:List Nat} (Ac:rd w0 F3 [v2] Ab) {r:Int}
    (h:d_slices_Index_impl_Pair_impl_Pair fu Ab v5 = some r) :
    Calls Tryz.prog 296 #[v2,.agg (Flat.e (v5)).toArray] w0 fun e w=>e = .returned (I r) ∧ Ext [] w0 w:=by
 refine enter (vs:=[_,_]) func296 z ntmps296 z fun a k=>?_
 have m:=St.start w0
 unfold d_slices_Index_impl_Pair_impl_Pair at h
 refine wr (s_box (cs:=[I v5.fA,I v5.fB]) m k z z z z z z fun b6 w9 a k m e Ag=>pN 1 k z fun a k=>nn (wp_seq (wr (pN 1 k z fun a k=>sv k z (r_len (α:=Pair) Ac k underlying34 z z) fun a k=>pN 1 k z fun a k=>nn (wp_block (c_loop (fun n a w=>∃ (Aa:Int),K 19 [(0,v2),(3,.pointer (some (⟨b6,0,none⟩:Addr))),(7,I ((Ab.length:Int))),(8,I Aa)] a ∧ St [] w0 w [([b6],w9)] ∧ d_slices_Index_impl_Pair_impl_Pair_L1 fu Ab v5 n Aa = some r) ?_ ?_ fu _ _ ?_))))))
 · rintro a w ⟨_,_,_,h⟩
   exact nS h
 · rintro Ak a Aj ⟨Aa,k,m,h⟩
   rw [d_slices_Index_impl_Pair_impl_Pair_L1_s] at h
   unfold d_slices_Index_impl_Pair_impl_Pair_L1_B at h
   refine wr (pN 1 k z fun a k=>nn (wp_seq (cI h k z (fun Ae h=>?_) fun Ae h=>?_)))
   · refine wp_skip (nm_then ?_)
     refine wp_seq (wp_block (wr (pN 2 k z fun a k=>nn (wp_seq (d_go [] mixo m z fun Af hMd=>?_)))))
     have m:=hMd
     have s:=Ext.refl ([]:List Nat) Af
     refine dN [1,2] 2 z k (by kernel_rfl) z s (fun _ _ _ _ _=>id) fun a k=>dt k 0 z (by kernel_rfl) z s (fun _ _ _=>id) (fun w s=>r_ldA ta180 (Ag.at ((hMd.step s).a 0 z) 0 2 z z z) z k z z) fun a k=>oE h fun Ai Ad h=>dt k 3 z (by kernel_rfl) z s (fun _ _ _=>id) (fun w s=>r_ixa Ac Ad k ts34 z z z) fun a k=>dt k 4 z (by kernel_rfl) z s (fun _ _ _=>id) (fun w s=>r_lde Ac ((hMd.step s).a00 (Enc.rd_lt Ac)) Ad ta180 k z z) fun a k=>dt k 5 z (by kernel_rfl) z s (fun _ _ _=>id) (fun w s=>r_eqs seq180 (x:=v5) (y:=Ai) k z z z z z) fun a k=>d_done (by kernel_rfl) ((nm_then ?_))
     refine cI h k z (fun Ah h=>?_) fun Ah h=>?_
     · refine wr (pN 2 k z fun a k=>nn (wp_ret (rt_block (rt_then (rt_then (rt_block (rt_then ?_)))))))
       refine fS h k m z z
     refine wp_skip (nm_block (nm_then ?_))
     refine wp_region_lit (pN 2 k z fun a k=>nn ?_)
     exact ⟨w64 (Aa + 1),k.keep [0,3,7,8] z,m.sel [0] z (by decide),h⟩
   refine wp_exit (ex_then (ex_then (ex_same (nm_then ?_))))
   refine wr (pN 1 k z fun a k=>nn (wp_ret (fS h k m z z)))
 exact ⟨0,k.keep [0,3,7,8] z,m.sel [0] z (by decide),h⟩
theorem c_slices_Contains_impl_Pair_impl_Pair (fu:Nat) {w0:World} (Aa:List Pair) (v5:Pair) {v2:Value} {F3:List Nat} (Ab:rd w0 F3 [v2] Aa) {r:Bool}
    (h:d_slices_Contains_impl_Pair_impl_Pair fu Aa v5 = some r) :
    Calls Tryz.prog 257 #[v2,.agg (Flat.e (v5)).toArray] w0 fun e w=>e = .returned (.bool (r)) ∧ Ext [] w0 w:=by
 refine enter (vs:=[_,_]) func257 z ntmps257 z fun a k=>?_
 have m:=St.start w0
 unfold d_slices_Contains_impl_Pair_impl_Pair at h
 refine wr (s_box (cs:=[I v5.fA,I v5.fB]) m k z z z z z z fun b6 w9 a k m e Ad=>pN 1 k z fun a k=>nn (wr (pN 1 k z fun a k=>sv k z (r_ldB ta180 m 0 Ad 0 k z z z z z z) fun a k=>oE h fun Af Ac h=>cE k m call296 z z z (c_slices_Index_impl_Pair_impl_Pair fu _ (v5:Pair) (Enc.rd_agr Ab (m.a00 (Enc.rd_lt Ab))) Ac) fun Ae e a k m=>pN 2 k z fun a k=>nn (wp_ret (fS h k m z z)))))
theorem c_impl_Beside (fu:Nat) {w0:World} (Ab:List Pair) (a5:Int) (b6:Int) {v2:Value} {F3:List Nat} (Aa:rd w0 F3 [v2] Ab) {r:Bool}
    (h:d_impl_Beside fu Ab a5 b6 = some r) :
    Calls Tryz.prog 179 #[v2,I a5,I b6] w0 fun e w=>e = .returned (.bool (r)) ∧ Ext [] w0 w:=by
 refine enter (vs:=[_,_,_]) func179 z ntmps179 z fun a k=>?_
 have m:=St.start w0
 unfold d_impl_Beside at h
 refine wr (pN 1 k z fun a k=>nn (wr (pN 3 k z fun a k=>sv k z (r_build bt180 k (cs:=#[I a5,I b6]) (ps:=[(0,.tmp 8),(1,.tmp 9)]) z z (by kernel_rfl)) fun a k=>oE h fun x7 Ac h=>cE k m call257 z z z (c_slices_Contains_impl_Pair_impl_Pair fu _ (((⟨a5,b6⟩:Pair)):Pair) (Enc.rd_agr Aa (m.a00 (Enc.rd_lt Aa))) Ac) fun Ad e a k m=>pN 1 k z fun a k=>nn (wp_ret (fS h k m z z)))))
theorem c_impl_TableOk (fu:Nat) {w0:World} (Ad:List Pair) (Aa:Int) {v2:Value} {F3:List Nat} (Ac:rd w0 F3 [v2] Ad) {r:Bool}
    (h:d_impl_TableOk fu Ad Aa = some r) :
    Calls Tryz.prog 273 #[v2,I Aa] w0 fun e w=>e = .returned (.bool (r)) ∧ Ext [] w0 w:=by
 refine enter (vs:=[_,_]) func273 z ntmps273 z fun a k=>?_
 have m:=St.start w0
 unfold d_impl_TableOk at h
 refine wr (pN 1 k z fun a k=>nn (wp_seq (wr (pN 1 k z fun a k=>oE h fun x6 Ag h=>cE k m call139 z z z (c_impl_in fu _ _ _  Ag) fun w9 e a k m=>pN 1 k z fun a k=>nn (cI h k z (fun Ah h=>?_) fun Ah h=>?_)))))
 · refine wr (pN 1 k z fun a k=>nn (wp_ret (rt_then ?_)))
   refine fS h k m z z
 refine wp_skip (nm_then ?_)
 refine wp_seq (wr (pN 2 k z fun a k=>nn (wp_block (c_loop (fun n a w=>∃ (Ab:Int),K 34 [(0,v2),(1,I Aa),(10,I Aa),(11,I Ab)] a ∧ St [] w0 w [] ∧ d_impl_TableOk_L2 fu Ad Aa n Ab = some r) ?_ ?_ fu _ _ ?_))))
 · rintro a w ⟨_,_,_,h⟩
   exact nS h
 · rintro Al a Ar ⟨Ab,k,m,h⟩
   rw [d_impl_TableOk_L2_s] at h
   unfold d_impl_TableOk_L2_B at h
   refine wr (pN 1 k z fun a k=>nn (wp_seq (cI h k z (fun Ai h=>?_) fun Ai h=>?_)))
   · refine wp_skip (nm_then ?_)
     refine wp_seq (wp_block (wr (pN 2 k z fun a k=>nn (wp_seq (wr (pN 3 k z fun a k=>oE h fun Ax Ao h=>cE k m call179 z z z (c_impl_Beside fu _ _ _ (Enc.rd_agr Ac (m.a00 (Enc.rd_lt Ac))) Ao) fun As e a k m=>pN 1 k z fun a k=>nn (cI h k z (fun Af h=>?_) fun Af h=>?_)))))))
     · refine wr (pN 1 k z fun a k=>nn (wp_ret (rt_then (rt_block (rt_then (rt_then (rt_block (rt_then ?_))))))))
       refine fS h k m z z
     refine wp_skip (nm_then ?_)
     refine wr (pN 2 k z fun a k=>nn (wp_block (c_loop (fun n a w=>∃ (Ae:Int),K 34 [(0,v2),(1,I Aa),(5,I Ab),(10,I Aa),(11,I Ab),(19,I Aa),(20,I Ae)] a ∧ St [] w0 w [] ∧ d_impl_TableOk_L1 fu (d_impl_TableOk_L2 fu Ad Aa Al) Ad Aa Ab n Ae = some r) ?_ ?_ fu _ _ ?_)))
     · rintro a w ⟨_,_,_,h⟩
       exact nS h
     · rintro Aw a Av ⟨Ae,k,m,h⟩
       rw [d_impl_TableOk_L1_s] at h
       unfold d_impl_TableOk_L1_B at h
       refine wr (pN 1 k z fun a k=>nn (wp_seq (cI h k z (fun Aj h=>?_) fun Aj h=>?_)))
       · refine wp_skip (nm_then ?_)
         refine wp_seq (wp_block (wr (pN 2 k z fun a k=>nn (wr (pN 3 k z fun a k=>oE h fun Au Am h=>cE k m call179 z z z (c_impl_Beside fu _ _ _ (Enc.rd_agr Ac (m.a00 (Enc.rd_lt Ac))) Am) fun Ay e a k m=>pN 3 k z fun a k=>oE h fun At Ak h=>cE k m call179 z z z (c_impl_Beside fu _ _ _ (Enc.rd_agr Ac (m.a00 (Enc.rd_lt Ac))) Ak) fun Aq e a k m=>sv k z (r_neb k underlying4 z z z) fun a k=>nn (cI h k z (fun Ap h=>?_) fun Ap h=>?_))))))
         · refine wr (pN 1 k z fun a k=>nn (wp_ret (rt_block (rt_then (rt_then (rt_block (rt_block (rt_then (rt_then (rt_block (rt_then ?_)))))))))))
           refine fS h k m z z
         refine wp_skip (nm_block (nm_then ?_))
         refine wp_region_lit (pN 2 k z fun a k=>nn ?_)
         exact ⟨w64 (Ae + 1),k.keep [0,1,5,10,11,19,20] z,m.sel [] z (by decide),h⟩
       refine wp_exit (ex_then (ex_then (ex_same (nm_block (nm_then ?_)))))
       refine wp_region_lit (pN 2 k z fun a k=>nn ?_)
       exact ⟨w64 (Ab + 1),k.keep [0,1,10,11] z,m.sel [] z (by decide),h⟩
     exact ⟨0,k.keep [0,1,5,10,11,19,20] z,m.sel [] z (by decide),h⟩
   refine wp_exit (ex_then (ex_then (ex_same (nm_then ?_))))
   refine wr (pN 1 k z fun a k=>nn (wp_ret (fS h k m z z)))
 exact ⟨0,k.keep [0,1,10,11] z,m.sel [] z (by decide),h⟩
theorem c_slices_Sort_int_int (fu:Nat) {w0:World} (x1:List Int) {v2:Value} {F3:List Nat} (Aa:ow w0 F3 [v2] x1) {r:List Int}
    (h:d_slices_Sort_int_int fu x1 = some r) :
    Calls Tryz.prog 120 #[v2] w0 fun e w=>∃ H:List Nat,e = .returned (.tuple #[]) ∧ Ext F3 w0 w ∧ (∀ b ∈ H,b ∈ F3 ∨ w0.heap.size ≤ b) ∧ ow w H [v2] r :=
  (c_sortInt (fun blk off cap zs w=>Tryz.slices_Sort_int blk off cap zs w) (fun p cap w=>Tryz.slices_Sort_int_none p cap w) x1 Aa h).mono fun e w ⟨h1,h2,h3⟩=>⟨_,h1,h2,fun b hb=>.inl hb,h3⟩

theorem c_impl_Fits (fu:Nat) {w0:World} (x1:Item) (t2:Typ)  {r:Bool}
    (h:d_impl_Fits fu x1 t2 = some r) :
    Calls Tryz.prog 151 #[.agg (Flat.e (x1)).toArray,.agg (Flat.e (t2)).toArray] w0 fun e w=>e = .returned (.bool (r)) ∧ Ext [] w0 w:=by
 refine enter (vs:=[_,_]) func151 z ntmps151 z fun a k=>?_
 have m:=St.start w0
 unfold d_impl_Fits at h
 refine wr (s_box (cs:=[I x1.fId,I x1.fW,I x1.fH,I x1.fD,I x1.fGram,I x1.fClass,I x1.fCount]) m k z z z z z z fun b3 w5 a k m e Af=>s_box (cs:=[I t2.fId,I t2.fW,I t2.fH,I t2.fD,I t2.fTare,I t2.fGram,I t2.fCost]) m k z z z z z z fun b6 w9 a k m e Ag=>pN 1 k z fun a k=>nn ?_)
 refine c_cut (fun a w=>∃ (Ak:List Int) (Am:Value) (Ap:List Nat) (Ai:World) (Al:List Int) (Ao:Value) (Ah:List Nat) (Aj:World),K 57 [(2,.pointer (some (⟨b3,0,none⟩:Addr))),(3,.pointer (some (⟨b6,0,none⟩:Addr))),(5,Am),(6,Ao)] a ∧ St [] w0 w [([b3],w5),([b6],w9),(Ap,Ai),(Ah,Aj)] ∧ ow Ai Ap [Am] Ak ∧ ow Aj Ah [Ao] Al ∧ d_impl_Fits_J1 fu x1 t2 Ak Al = some r) ?_ ?_
 · rintro a Ck ⟨Ak,Am,Ap,Ai,Al,Ao,Ah,Aj,k,m,Bh,Be,h⟩
   unfold d_impl_Fits_J1 at h
   refine wr (pN 1 k z fun a k=>oE h fun Cu Bu h=>s_call k call120 z z z z z (c_slices_Sort_int_int fu _ (Enc.ow_agr Bh (m.a 2 z)) Bu) fun Cf Cn hR=>?_)
   obtain ⟨Ch,rfl,e,Bk,Ab⟩:=hR
   refine ⟨_,z,fun a k=>?_⟩
   have m:=m.mut 2 z e _ (fun b hb=>⟨Bk b hb,Enc.rd_lt (Enc.ow_rd Ab) b hb⟩) (Enc.ow_nd Ab)
   refine nn (wr (pN 1 k z fun a k=>oE h fun Ci Bb h=>s_call k call120 z z z z z (c_slices_Sort_int_int fu _ (Enc.ow_agr Be (m.a 3 z)) Bb) fun Cr Cm hR=>?_))
   obtain ⟨Cl,rfl,e,Cd,Aa⟩:=hR
   refine ⟨_,z,fun a k=>?_⟩
   have m:=m.mut 3 z e _ (fun b hb=>⟨Cd b hb,Enc.rd_lt (Enc.ow_rd Aa) b hb⟩) (Enc.ow_nd Aa)
   refine nn (wp_seq (d_go [] mixo m z fun Cb hMd=>?_))
   have m:=hMd
   have s:=Ext.refl ([]:List Nat) Cb
   refine dN [0,3] 2 z k (by kernel_rfl) z s (fun _ _ _ _ _=>id) fun a k=>oE h fun Bc Aw h=>dt k 1 z (by kernel_rfl) z s (fun _ _ _=>id) (fun w s=>r_ixa (Enc.ow_rd Ab) Aw k ts63 z z z) fun a k=>dt k 2 z (by kernel_rfl) z s (fun _ _ _=>id) (fun w s=>r_lde1 (Enc.ow_rd Ab) ((hMd.step s).a 2 z) Aw 0 t13 k z z z z) fun a k=>oE h fun Bt Av h=>dt k 4 z (by kernel_rfl) z s (fun _ _ _=>id) (fun w s=>r_ixa (Enc.ow_rd Aa) Av k ts63 z z z) fun a k=>dt k 5 z (by kernel_rfl) z s (fun _ _ _=>id) (fun w s=>r_lde1 (Enc.ow_rd Aa) ((hMd.step s).a 3 z) Av 0 t13 k z z z z) fun a k=>dN [6,7] 2 z k (by kernel_rfl) z s (fun _ _ _ _ _=>id) fun a k=>bsplit (decide (Bc ≤ Bt)) (fun Ad=>?_) (fun Ad=>?_)
   · have h:=bif_t Ad h
     refine rB k 32 z Ad fun k=>dN [8,11] 2 z k (by kernel_rfl) z s (fun _ _ _ _ _=>id) fun a k=>oE h fun Cc Ay h=>dt k 9 z (by kernel_rfl) z s (fun _ _ _=>id) (fun w s=>r_ixa (Enc.ow_rd Ab) Ay k ts63 z z z) fun a k=>dt k 10 z (by kernel_rfl) z s (fun _ _ _=>id) (fun w s=>r_lde1 (Enc.ow_rd Ab) ((hMd.step s).a 2 z) Ay 0 t13 k z z z z) fun a k=>oE h fun Bg Au h=>dt k 12 z (by kernel_rfl) z s (fun _ _ _=>id) (fun w s=>r_ixa (Enc.ow_rd Aa) Au k ts63 z z z) fun a k=>dt k 13 z (by kernel_rfl) z s (fun _ _ _=>id) (fun w s=>r_lde1 (Enc.ow_rd Aa) ((hMd.step s).a 3 z) Au 0 t13 k z z z z) fun a k=>dN [14,15,16] 3 z k (by kernel_rfl) z s (fun _ _ _ _ _=>id) fun a k=>bsplit (decide (Cc ≤ Bg)) (fun Ae=>?_) (fun Ae=>?_)
     · have h:=bif_t Ae h
       refine rB k 41 z Ae fun k=>dN [17,20] 2 z k (by kernel_rfl) z s (fun _ _ _ _ _=>id) fun a k=>oE h fun Bl At h=>dt k 18 z (by kernel_rfl) z s (fun _ _ _=>id) (fun w s=>r_ixa (Enc.ow_rd Ab) At k ts63 z z z) fun a k=>dt k 19 z (by kernel_rfl) z s (fun _ _ _=>id) (fun w s=>r_lde1 (Enc.ow_rd Ab) ((hMd.step s).a 2 z) At 0 t13 k z z z z) fun a k=>oE h fun Bm Ar h=>dt k 21 z (by kernel_rfl) z s (fun _ _ _=>id) (fun w s=>r_ixa (Enc.ow_rd Aa) Ar k ts63 z z z) fun a k=>dt k 22 z (by kernel_rfl) z s (fun _ _ _=>id) (fun w s=>r_lde1 (Enc.ow_rd Aa) ((hMd.step s).a 3 z) Ar 0 t13 k z z z z) fun a k=>dN [23,24,25] 3 z k (by kernel_rfl) z s (fun _ _ _ _ _=>id) fun a k=>bsplit (decide (Bl ≤ Bm)) (fun Ac=>?_) (fun Ac=>?_)
       · have h:=bif_t Ac h
         refine rB k 50 z Ac fun k=>dt k 26 z (by kernel_rfl) z s (fun _ _ _=>id) (fun w s=>r_fa fa158_4 k z z) fun a k=>dt k 27 z (by kernel_rfl) z s (fun _ _ _=>id) (fun w s=>r_ld1 t13 (r:=[]) (Af.at ((hMd.step s).a 0 z) 4 1 z z z) k z z) fun a k=>dt k 28 z (by kernel_rfl) z s (fun _ _ _=>id) (fun w s=>r_fa fa79_5 k z z) fun a k=>dt k 29 z (by kernel_rfl) z s (fun _ _ _=>id) (fun w s=>r_ld1 t13 (r:=[]) (Ag.at ((hMd.step s).a 1 z) 5 1 z z z) k z z) fun a k=>dN [30,31,32] 3 z k (by kernel_rfl) z s (fun _ _ _ _ _=>id) fun a k=>d_done (by kernel_rfl) ?_
         have k:=k.keep [4] z
         refine (nm_then ?_)
         refine wp_ret (fS h k m z z)
       have h:=bif_f Ac h
       refine rB k 50 z Ac fun k=>dN [26,27,28,29,30,31,32] 7 z k (by kernel_rfl) z s (fun _ _ _ _ _=>id) fun a k=>d_done (by kernel_rfl) ?_
       have k:=k.keep [4] z
       refine (nm_then ?_)
       refine wp_ret (fS h k m z z)
     have h:=bif_f Ae h
     refine rB k 41 z Ae fun k=>dN [17,18,19,20,21,22,23,24,25,26,27,28,29,30,31,32] 16 z k (by kernel_rfl) z s (fun _ _ _ _ _=>id) fun a k=>d_done (by kernel_rfl) ?_
     have k:=k.keep [4] z
     refine (nm_then ?_)
     refine wp_ret (fS h k m z z)
   have h:=bif_f Ad h
   refine rB k 32 z Ad fun k=>dN [8,9,10,11,12,13,14,15,16,17,18,19,20,21,22,23,24,25,26,27,28,29,30,31,32] 25 z k (by kernel_rfl) z s (fun _ _ _ _ _=>id) fun a k=>d_done (by kernel_rfl) ?_
   have k:=k.keep [4] z
   refine (nm_then ?_)
   refine wp_ret (fS h k m z z)
 refine d_go [] mixo m z fun Bs hMd=>?_
 have m:=hMd
 have s:=Ext.refl ([]:List Nat) Bs
 refine dt k 0 z (by kernel_rfl) z s (fun _ _ _=>id) (fun w s=>r_fa fa158_1 k z z) fun a k=>dt k 1 z (by kernel_rfl) z s (fun _ _ _=>id) (fun w s=>r_ld1 t13 (r:=[]) (Af.at ((hMd.step s).a 1 z) 1 1 z z z) k z z) fun a k=>dt k 2 z (by kernel_rfl) z s (fun _ _ _=>id) (fun w s=>r_fa fa158_2 k z z) fun a k=>dt k 3 z (by kernel_rfl) z s (fun _ _ _=>id) (fun w s=>r_ld1 t13 (r:=[]) (Af.at ((hMd.step s).a 1 z) 2 1 z z z) k z z) fun a k=>dt k 4 z (by kernel_rfl) z s (fun _ _ _=>id) (fun w s=>r_fa fa158_3 k z z) fun a k=>dt k 5 z (by kernel_rfl) z s (fun _ _ _=>id) (fun w s=>r_ld1 t13 (r:=[]) (Af.at ((hMd.step s).a 1 z) 3 1 z z z) k z z) fun a k=>?_
 refine dt k 7 z (by kernel_rfl) z s (fun _ _ _=>id) (fun w s=>r_fa fa79_1 k z z) fun a k=>dt k 8 z (by kernel_rfl) z s (fun _ _ _=>id) (fun w s=>r_ld1 t13 (r:=[]) (Ag.at ((hMd.step s).a 0 z) 1 1 z z z) k z z) fun a k=>dt k 9 z (by kernel_rfl) z s (fun _ _ _=>id) (fun w s=>r_fa fa79_2 k z z) fun a k=>dt k 10 z (by kernel_rfl) z s (fun _ _ _=>id) (fun w s=>r_ld1 t13 (r:=[]) (Ag.at ((hMd.step s).a 0 z) 2 1 z z z) k z z) fun a k=>dt k 11 z (by kernel_rfl) z s (fun _ _ _=>id) (fun w s=>r_fa fa79_3 k z z) fun a k=>dt k 12 z (by kernel_rfl) z s (fun _ _ _=>id) (fun w s=>r_ld1 t13 (r:=[]) (Ag.at ((hMd.step s).a 0 z) 3 1 z z z) k z z) fun a k=>d_two 6 13 (by kernel_rfl) z z ?_ ?_ 
 · refine s_bsN (cs:=[I x1.fW,I x1.fH,I x1.fD]) (ps:=[(0,.tmp 8),(1,.tmp 10),(2,.tmp 12)]) te63 m k z z z z z z z (by decide) z (by exact (List.forall_mem_cons.2 ⟨z,(List.forall_mem_cons.2 ⟨z,(List.forall_mem_cons.2 ⟨z,(List.forall_mem_nil _)⟩)⟩)⟩)) fun Ax Ba Cj a k m e Bv Bx=>?_
   have Ct:=lo1 (Nat.le_trans s.size Bx)
   have Br:=ow_bx Bv ([x1.fW,x1.fH,x1.fD]:List Int) z z z
   have s:=s.trans e (by simp)
   refine wpList_nil ⟨s,?_⟩
   refine dN [14] 1 z k (by kernel_rfl) z s (fun _ _ _ _ _=>id) fun a k=>d_one 13 (by kernel_rfl) z (s_bsN (cs:=[I t2.fW,I t2.fH,I t2.fD]) (ps:=[(0,.tmp 15),(1,.tmp 17),(2,.tmp 19)]) te63 m k z z z z z z z (by decide) z (by exact (List.forall_mem_cons.2 ⟨z,(List.forall_mem_cons.2 ⟨z,(List.forall_mem_cons.2 ⟨z,(List.forall_mem_nil _)⟩)⟩)⟩)) fun Aq Bd Cp a k m e Bp Bq=>?_)
   have Cs:=lo1 (Nat.le_trans s.size Bq)
   have Bn:=ow_bx Bp ([t2.fW,t2.fH,t2.fD]:List Int) z z z
   have s:=s.trans e (by simp)
   refine wpList_nil ⟨s,?_⟩
   refine dN [15] 1 z k (by kernel_rfl) z s (fun _ _ _ _ _=>id) fun a k=>d_done (by kernel_rfl) ((nm_then ?_))
   exact ⟨([x1.fW,x1.fH,x1.fD]:List Int),(.slice (some ⟨Ax,0,none⟩) 3 3),[Ax],Ba,([t2.fW,t2.fH,t2.fD]:List Int),(.slice (some ⟨Aq,0,none⟩) 3 3),[Aq],Bd,k.keep [2,3,5,6] z,m.sel [3,2,1,0] z (by decide),Br,Bn,h⟩
 refine s_bsN (cs:=[I t2.fW,I t2.fH,I t2.fD]) (ps:=[(0,.tmp 15),(1,.tmp 17),(2,.tmp 19)]) te63 m k z z z z z z z (by decide) z (by exact (List.forall_mem_cons.2 ⟨z,(List.forall_mem_cons.2 ⟨z,(List.forall_mem_cons.2 ⟨z,(List.forall_mem_nil _)⟩)⟩)⟩)) fun As Ca Cg a k m e Bj Bw=>?_
 have Co:=lo1 (Nat.le_trans s.size Bw)
 have Bf:=ow_bx Bj ([t2.fW,t2.fH,t2.fD]:List Int) z z z
 have s:=s.trans e (by simp)
 refine wpList_nil ⟨s,?_⟩
 refine d_one 6 (by kernel_rfl) z (s_bsN (cs:=[I x1.fW,I x1.fH,I x1.fD]) (ps:=[(0,.tmp 8),(1,.tmp 10),(2,.tmp 12)]) te63 m k z z z z z z z (by decide) z (by exact (List.forall_mem_cons.2 ⟨z,(List.forall_mem_cons.2 ⟨z,(List.forall_mem_cons.2 ⟨z,(List.forall_mem_nil _)⟩)⟩)⟩)) fun Az Bi Ce a k m e Bz By=>?_)
 have Cq:=lo1 (Nat.le_trans s.size By)
 have Bo:=ow_bx Bz ([x1.fW,x1.fH,x1.fD]:List Int) z z z
 have s:=s.trans e (by simp)
 refine wpList_nil ⟨s,?_⟩
 refine dN [14,15] 2 z k (by kernel_rfl) z s (fun _ _ _ _ _=>id) fun a k=>d_done (by kernel_rfl) ((nm_then ?_))
 exact ⟨([x1.fW,x1.fH,x1.fD]:List Int),(.slice (some ⟨Az,0,none⟩) 3 3),[Az],Bi,([t2.fW,t2.fH,t2.fD]:List Int),(.slice (some ⟨As,0,none⟩) 3 3),[As],Ca,k.keep [2,3,5,6] z,m.sel [3,2,0,1] z (by decide),Bo,Bf,h⟩
theorem c_impl_Class_1 (fu:Nat) {w0:World} (x1:Item) (x2:Typ) {b3:Nat} (Aa:bx w0 b3 [I x2.fId,I x2.fW,I x2.fH,I x2.fD,I x2.fTare,I x2.fGram,I x2.fCost] 79) {r:Bool}
    (h:d_impl_Class_1 fu x1 x2 = some r) :
    Calls Tryz.prog 274 #[.agg (Flat.e (x1)).toArray,.pointer (some (⟨b3,0,none⟩:Addr))] w0 fun e w=>e = .returned (.bool (r)) ∧ Ext [] w0 w:=by
 refine enter (vs:=[_,_]) func274 z ntmps274 z fun a k=>?_
 have m:=St.start w0
 unfold d_impl_Class_1 at h
 refine wr (s_box (cs:=[I x1.fId,I x1.fW,I x1.fH,I x1.fD,I x1.fGram,I x1.fClass,I x1.fCount]) m k z z z z z z fun b5 w7 a k m e Ab=>pN 1 k z fun a k=>nn (wr (sv k z (r_ldB ta158 m 0 Ab 0 k z z z z z z) fun a k=>sv k z (r_ldA ta79 (Aa.at (m.a00 Aa.lt1) 0 7 z z z) z k z z) fun a k=>oE h fun x8 Ac h=>cE k m call151 z z z (c_impl_Fits fu (x1:Item) (x2:Typ)  Ac) fun Ad e a k m=>pN 2 k z fun a k=>nn (wp_ret (fS h k m z z)))))
theorem c_impl_Class_2 (fu:Nat) {w0:World} (t1:Typ) (x2:Pallet) {b3:Nat} (Aa:bx w0 b3 [I x2.fW,I x2.fD,I x2.fH,I x2.fGram] 33) {r:Bool}
    (h:d_impl_Class_2 fu t1 x2 = some r) :
    Calls Tryz.prog 276 #[.agg (Flat.e (t1)).toArray,.pointer (some (⟨b3,0,none⟩:Addr))] w0 fun e w=>e = .returned (.bool (r)) ∧ Ext [] w0 w:=by
 refine enter (vs:=[_,_]) func276 z ntmps276 z fun a k=>?_
 have m:=St.start w0
 unfold d_impl_Class_2 at h
 refine wr (s_box (cs:=[I t1.fId,I t1.fW,I t1.fH,I t1.fD,I t1.fTare,I t1.fGram,I t1.fCost]) m k z z z z z z fun b5 w7 a k m e Ad=>pN 1 k z fun a k=>nn (wr (sv k z (r_fa fa79_1 k z z) fun a k=>sv k z (r_ldb t13 m 0 Ad 1 k z z z z z) fun a k=>sv k z (r_fa fa33_0 k z z) fun a k=>sv k z (r_ld1 t13 (r:=[]) (Aa.at (m.a00 Aa.lt1) 0 1 z z z) k z z) fun a k=>pN 2 k z fun a k=>bsplit (decide (t1.fW > x2.fW)) (fun Ae=>?_) (fun Ae=>?_))))
 · have h:=bif_t Ae h
   refine rB k 9 z Ae fun k=>pN 24 k z fun a k=>?_
   have k:=k.keep [3] z
   refine nn (wp_ret (fS h k m z z))
 have h:=bif_f Ae h
 refine rB k 9 z Ae fun k=>sv k z (r_fa fa79_3 k z z) fun a k=>sv k z (r_ldb t13 m 0 Ad 3 k z z z z z) fun a k=>sv k z (r_fa fa33_1 k z z) fun a k=>sv k z (r_ld1 t13 (r:=[]) (Aa.at (m.a00 Aa.lt1) 1 1 z z z) k z z) fun a k=>pN 3 k z fun a k=>bsplit (decide (t1.fD > x2.fD)) (fun Ab=>?_) (fun Ab=>?_)
 · have h:=bif_t Ab h
   refine rB k 16 z Ab fun k=>pN 17 k z fun a k=>?_
   have k:=k.keep [3] z
   refine nn (wp_ret (fS h k m z z))
 have h:=bif_f Ab h
 refine rB k 16 z Ab fun k=>sv k z (r_fa fa79_2 k z z) fun a k=>sv k z (r_ldb t13 m 0 Ad 2 k z z z z z) fun a k=>sv k z (r_fa fa33_2 k z z) fun a k=>sv k z (r_ld1 t13 (r:=[]) (Aa.at (m.a00 Aa.lt1) 2 1 z z z) k z z) fun a k=>pN 3 k z fun a k=>bsplit (decide (t1.fH > x2.fH)) (fun Ac=>?_) (fun Ac=>?_)
 · have h:=bif_t Ac h
   refine rB k 23 z Ac fun k=>pN 10 k z fun a k=>?_
   have k:=k.keep [3] z
   refine nn (wp_ret (fS h k m z z))
 have h:=bif_f Ac h
 refine rB k 23 z Ac fun k=>sv k z (r_fa fa79_4 k z z) fun a k=>sv k z (r_ldb t13 m 0 Ad 4 k z z z z z) fun a k=>sv k z (r_fa fa79_5 k z z) fun a k=>sv k z (r_ldb t13 m 0 Ad 5 k z z z z z) fun a k=>pN 1 k z fun a k=>sv k z (r_fa fa33_3 k z z) fun a k=>sv k z (r_ld1 t13 (r:=[]) (Aa.at (m.a00 Aa.lt1) 3 1 z z z) k z z) fun a k=>pN 3 k z fun a k=>?_
 have k:=k.keep [3] z
 refine nn (wp_ret (fS h k m z z))
theorem c_impl_Class (fu:Nat) {w0:World} (r1:Request) {Af:List Value} {F3:List Nat} (Am:rd w0 F3 Af r1) {r:Int}
    (h:d_impl_Class fu r1 = some r) :
    Calls Tryz.prog 220 #[.agg Af.toArray] w0 fun e w=>e = .returned (I r) ∧ Ext [] w0 w:=by
 refine enter (vs:=[_]) func220 z ntmps220 z fun a k=>?_
 have m:=St.start w0
 obtain ⟨v5,F6,v7,F8,v9,Bq,rfl,rfl,Aa,Ad,Ab⟩:=Am
 unfold d_impl_Class at h
 refine wr (s_box (cs:=[I r1.fWay,I r1.fPallet.fW,I r1.fPallet.fD,I r1.fPallet.fH,I r1.fPallet.fGram,I r1.fClasses,v5,v7,I r1.fMaster,v9]) m k z z z z z z fun Be Bu a k m e Ac=>pN 1 k z fun a k=>nn (wr (sv k z (r_ldB ta38 m 0 Ac 0 k z z z z z z) fun a k=>oE h fun Ae As h=>cE k m call250 z z z (c_impl_MasterOf fu _ (show rd _ _ [I r1.fWay,I r1.fPallet.fW,I r1.fPallet.fD,I r1.fPallet.fH,I r1.fPallet.fGram,I r1.fClasses,v5,v7,I r1.fMaster,v9] (r1:Request) from ⟨_,_,_,_,_,_,z,z,(Enc.rd_agr Aa (m.a00 (Enc.rd_lt Aa))),(Enc.rd_agr Ad (m.a00 (Enc.rd_lt Ad))),(Enc.rd_agr Ab (m.a00 (Enc.rd_lt Ab)))⟩) As) fun Bc e a k m=>?_)))
 refine pN 3 k z fun a k=>s_alloc (cs:=[I 0,I 0,I 0,I 0,I 0,I 0,I 0]) m k zeroValue79 z z z z z fun Aq Bp a k m e Ay=>s_stb (cs':=[I Ae.1.fId,I Ae.1.fW,I Ae.1.fH,I Ae.1.fD,I Ae.1.fTare,I Ae.1.fGram,I Ae.1.fCost]) sizeOf79 m 0 Ay 0 k z z z z z z z z z z z fun Bs a k e m Az=>pN 1 k z fun a k=>nn (wr (sv k z (r_fa fa38_1 k z z) fun a k=>sv k z (r_ldB ta33 m 1 Ac 1 k z z z z z z) fun a k=>s_alloc (cs:=[I 0,I 0,I 0,I 0]) m k zeroValue33 z z z z z fun Ax Bh a k m e Aj=>?_))
 refine s_stb (cs':=[I r1.fPallet.fW,I r1.fPallet.fD,I r1.fPallet.fH,I r1.fPallet.fGram]) sizeOf33 m 0 Aj 0 k z z z z z z z z z z z fun Bg a k e m Ak=>nn (wp_seq (wp_block (wr (sv k z (r_ldB ta38 m 2 Ac 0 k z z z z z z) fun a k=>oE h fun Bm Ai h=>cE k m call271 z z z (c_impl_BoundsOk fu _ (show rd _ _ [I r1.fWay,I r1.fPallet.fW,I r1.fPallet.fD,I r1.fPallet.fH,I r1.fPallet.fGram,I r1.fClasses,v5,v7,I r1.fMaster,v9] (r1:Request) from ⟨_,_,_,_,_,_,z,z,(Enc.rd_agr Aa (m.a00 (Enc.rd_lt Aa))),(Enc.rd_agr Ad (m.a00 (Enc.rd_lt Ad))),(Enc.rd_agr Ab (m.a00 (Enc.rd_lt Ab)))⟩) Ai) fun Bt e a k m=>pN 2 k z fun a k=>nn ?_))))
 refine cI h k z (fun Ba h=>?_) fun Ba h=>?_
 · refine wr (pN 1 k z fun a k=>nn (wp_ret (rt_block (rt_then ?_))))
   refine fS h k m z z
 refine wr (sv k z (r_ldB ta38 m 2 Ac 0 k z z z z z z) fun a k=>oE h fun Bb Ao h=>cE k m call272 z z z (c_impl_namesOk fu _ (show rd _ _ [I r1.fWay,I r1.fPallet.fW,I r1.fPallet.fD,I r1.fPallet.fH,I r1.fPallet.fGram,I r1.fClasses,v5,v7,I r1.fMaster,v9] (r1:Request) from ⟨_,_,_,_,_,_,z,z,(Enc.rd_agr Aa (m.a00 (Enc.rd_lt Aa))),(Enc.rd_agr Ad (m.a00 (Enc.rd_lt Ad))),(Enc.rd_agr Ab (m.a00 (Enc.rd_lt Ab)))⟩) Ao) fun Bi e a k m=>pN 2 k z fun a k=>nn (cI h k z (fun At h=>?_) fun At h=>?_))
 · refine wr (pN 1 k z fun a k=>nn (wp_ret (rt_block (rt_then ?_))))
   refine fS h k m z z
 refine wr (sv k z (r_fa fa38_3 k z z) fun a k=>sv k z (r_ldb t134 m 2 Ac 6 k z z z z z) fun a k=>sv k z (r_fa fa38_2 k z z) fun a k=>sv k z (r_ldb t13 m 2 Ac 5 k z z z z z) fun a k=>oE h fun Bk Ap h=>cE k m call273 z z z (c_impl_TableOk fu _ _ (Enc.rd_agr Aa (m.a00 (Enc.rd_lt Aa))) Ap) fun Bw e a k m=>pN 2 k z fun a k=>?_)
 have k:=k.keep [1,3,5,21] z
 refine nn (cI h k z (fun Al h=>?_) fun Al h=>?_)
 · refine wr (pN 1 k z fun a k=>nn (wp_ret (rt_block (rt_then ?_))))
   refine fS h k m z z
 refine wr (sv k z (r_fa fa38_6 k z z) fun a k=>sv k z (r_ldb t136 m 2 Ac 9 k z z z z z) fun a k=>pN 1 k z fun a k=>oE h fun Bd Aw h=>cE k m call148 z z z (c_slices_ContainsFunc_impl_Item_impl_Item fu _ _ (Enc.rd_agr Ab (m.a00 (Enc.rd_lt Ab))) ⟨274,[.pointer (some (⟨Aq,0,none⟩:Addr))],z,call274,fun w Bv Bf r e Av hx=>by subst Av; have m:=m.step e; exact c_impl_Class_1 fu _ _ (Az.agr (m.a 1 rfl) (by simp)) hx⟩ Aw) fun Bn e a k m=>pN 1 k rfl fun a k=>nn (cI h k rfl (fun Ag h=>?_) fun Ag h=>?_))
 · refine wr (pN 1 k z fun a k=>nn (wp_ret (rt_block (rt_then ?_))))
   refine fS h k m z z
 refine wr (sv k z (r_fa fa38_4 k z z) fun a k=>sv k z (r_ldb t135 m 2 Ac 7 k z z z z z) fun a k=>pN 1 k z fun a k=>oE h fun Bj Ah h=>cE k m call275 z z z (c_slices_ContainsFunc_impl_Type_impl_Type fu _ _ (Enc.rd_agr Ad (m.a00 (Enc.rd_lt Ad))) ⟨276,[.pointer (some (⟨Ax,0,none⟩:Addr))],z,call276,fun w Br Bl r e Ar hx=>by subst Ar; have m:=m.step e; exact c_impl_Class_2 fu _ _ (Ak.agr (m.a 0 rfl) (by simp)) hx⟩ Ah) fun Bo e a k m=>pN 1 k rfl fun a k=>nn (cI h k rfl (fun Au h=>?_) fun Au h=>?_))
 · refine wr (pN 1 k z fun a k=>nn (wp_ret (rt_block (rt_then ?_))))
   refine fS h k m z z
 refine wp_skip (nm_block (nm_then ?_))
 refine wr (pN 1 k z fun a k=>nn (wp_ret (fS h k m z z)))
theorem c_impl_sound (fu:Nat) {w0:World} (r1:Request) {Ab:List Value} {F3:List Nat} (Ag:rd w0 F3 Ab r1) {r:Bool}
    (h:d_impl_sound fu r1 = some r) :
    Calls Tryz.prog 115 #[.agg Ab.toArray] w0 fun e w=>e = .returned (.bool (r)) ∧ Ext [] w0 w:=by
 refine enter (vs:=[_]) func115 z ntmps115 z fun a k=>?_
 have m:=St.start w0
 obtain ⟨v5,F6,v7,F8,v9,Aj,rfl,rfl,Ac,Ad,Aa⟩:=Ag
 unfold d_impl_sound at h
 refine wr (s_box (cs:=[I r1.fWay,I r1.fPallet.fW,I r1.fPallet.fD,I r1.fPallet.fH,I r1.fPallet.fGram,I r1.fClasses,v5,v7,I r1.fMaster,v9]) m k z z z z z z fun Ai Ak a k m e Ae=>pN 1 k z fun a k=>nn (wr (sv k z (r_ldB ta38 m 0 Ae 0 k z z z z z z) fun a k=>oE h fun Al Af h=>cE k m call220 z z z (c_impl_Class fu _ (show rd _ _ [I r1.fWay,I r1.fPallet.fW,I r1.fPallet.fD,I r1.fPallet.fH,I r1.fPallet.fGram,I r1.fClasses,v5,v7,I r1.fMaster,v9] (r1:Request) from ⟨_,_,_,_,_,_,z,z,(Enc.rd_agr Ac (m.a00 (Enc.rd_lt Ac))),(Enc.rd_agr Ad (m.a00 (Enc.rd_lt Ad))),(Enc.rd_agr Aa (m.a00 (Enc.rd_lt Aa)))⟩) Af) fun Ah e a k m=>?_)))
 refine pN 2 k z fun a k=>nn (wp_ret (fS h k m z z))
theorem c_impl_unitsRight (fu:Nat) {w0:World} (Ac:List Int) {v2:Value} {F3:List Nat} (Aa:rd w0 F3 [v2] Ac) {r:Bool}
    (h:d_impl_unitsRight fu Ac = some r) :
    Calls Tryz.prog 221 #[v2] w0 fun e w=>e = .returned (.bool (r)) ∧ Ext [] w0 w:=by
 refine enter (vs:=[_]) func221 z ntmps221 z fun a k=>?_
 have m:=St.start w0
 unfold d_impl_unitsRight at h
 refine wr (pN 1 k z fun a k=>nn (wp_seq (wr (pN 1 k z fun a k=>sv k z (r_len (α:=Int) Aa k underlying63 z z) fun a k=>pN 1 k z fun a k=>nn (wp_block (c_loop (fun n a w=>∃ (Ab:Int),K 32 [(0,v2),(5,v2),(6,I ((Ac.length:Int))),(7,I Ab)] a ∧ St [] w0 w [] ∧ d_impl_unitsRight_L1 fu Ac n Ab = some r) ?_ ?_ fu _ _ ?_))))))
 · rintro a w ⟨_,_,_,h⟩
   exact nS h
 · rintro Ak a Ar ⟨Ab,k,m,h⟩
   rw [d_impl_unitsRight_L1_s] at h
   unfold d_impl_unitsRight_L1_B at h
   refine wr (pN 1 k z fun a k=>nn (wp_seq (cI h k z (fun Al h=>?_) fun Al h=>?_)))
   · refine wp_skip (nm_then ?_)
     refine c_cut (fun a w=>K 32 [(0,v2),(5,v2),(6,I ((Ac.length:Int))),(7,I Ab)] a ∧ St [] w0 w [] ∧ d_impl_unitsRight_J1 fu (d_impl_unitsRight_L1 fu Ac Ak) Ab = some r) ?_ ?_
     · rintro a Am ⟨k,m,h⟩
       unfold d_impl_unitsRight_J1 at h
       refine wp_region_lit (pN 2 k z fun a k=>nn ?_)
       exact ⟨w64 (Ab + 1),k.keep [0,5,6,7] z,m.sel [] z (by decide),h⟩
     refine wp_block (wr (pN 1 k z fun a k=>oE h fun Ap Ag h=>sv k z (r_ixa Aa Ag k ts63 z z z) fun a k=>sv k z (r_lde1 Aa (m.a00 (Enc.rd_lt Aa)) Ag 0 t13 k z z z z) fun a k=>pN 2 k z fun a k=>nn (wr (pN 1 k z fun a k=>oE h fun Ah Ai h=>cE k m call139 z z z (c_impl_in fu _ _ _  Ai) fun Ao e a k m=>pN 2 k z fun a k=>bsplit (!Ah) (fun Ae=>?_) (fun Ae=>?_)))))
     · have h:=bif_t Ae h
       refine rB k 15 z Ae fun k=>pN 12 k z fun a k=>nn (wp_cond_true (k.ev z) (wr (pN 1 k z fun a k=>nn (wp_ret (rt_block (rt_then (rt_then (rt_block (rt_then ?_)))))))))
       refine fS h k m z z
     have h:=bif_f Ae h
     refine rB k 15 z Ae fun k=>pN 3 k z fun a k=>bsplit (decide (Ab > 0)) (fun Ad=>?_) (fun Ad=>?_)
     · have h:=bif_t Ad h
       refine rB k 18 z Ad fun k=>pN 3 k z fun a k=>oE h fun Aq Af h=>sv k z (r_ixa Aa Af k ts63 z z z) fun a k=>sv k z (r_lde1 Aa (m.a00 (Enc.rd_lt Aa)) Af 0 t13 k z z z z) fun a k=>pN 4 k z fun a k=>nn (cI h k z (fun Aj h=>?_) fun Aj h=>?_)
       · refine wr (pN 1 k z fun a k=>nn (wp_ret (rt_block (rt_then (rt_then (rt_block (rt_then ?_)))))))
         refine fS h k m z z
       refine wp_skip (nm_block (nm_then ?_))
       exact ⟨k.keep [0,5,6,7] z,m.sel [] z (by decide),h⟩
     have h:=bif_f Ad h
     refine rB k 18 z Ad fun k=>pN 9 k z fun a k=>nn (wp_cond_false (k.ev z) (wp_skip (nm_block (nm_then ?_))))
     exact ⟨k.keep [0,5,6,7] z,m.sel [] z (by decide),h⟩
   refine wp_exit (ex_then (ex_then (ex_same (nm_then ?_))))
   refine wr (pN 1 k z fun a k=>sv k z (r_len (α:=Int) Aa k underlying63 z z) fun a k=>pN 2 k z fun a k=>nn (wp_ret (fS h k m z z)))
 exact ⟨0,k.keep [0,5,6,7] z,m.sel [] z (by decide),h⟩
theorem c_impl_isPlace (fu:Nat) {w0:World} (n1:Int)  {r:Bool}
    (h:d_impl_isPlace fu n1 = some r) :
    Calls Tryz.prog 153 #[I n1] w0 fun e w=>e = .returned (.bool (r)) ∧ Ext [] w0 w:=by
 refine enter (vs:=[_]) func153 z ntmps153 z fun a k=>?_
 have m:=St.start w0
 unfold d_impl_isPlace at h
 refine wr (pN 1 k z fun a k=>nn (wr (pN 1 k z fun a k=>oE h fun x2 Aa h=>cE k m call139 z z z (c_impl_in fu _ _ _  Aa) fun w5 e a k m=>pN 1 k z fun a k=>nn (wp_ret (fS h k m z z)))))
theorem c_impl_PlanOk (fu:Nat) {w0:World} (x1:Plan) {Au:List Value} {F3:List Nat} (Bd:rd w0 F3 Au x1) {r:Bool}
    (h:d_impl_PlanOk fu x1 = some r) :
    Calls Tryz.prog 116 #[.agg Au.toArray] w0 fun e w=>e = .returned (.bool (r)) ∧ Ext [] w0 w:=by
 refine enter (vs:=[_]) func116 z ntmps116 z fun a k=>?_
 have m:=St.start w0
 obtain ⟨v5,F6,v7,F8,rfl,rfl,Ac,Ao⟩:=Bd
 unfold d_impl_PlanOk at h
 refine wr (s_box (cs:=[v5,v7]) m k z z z z z z fun Ab Ar a k m e Ae=>pN 1 k z fun a k=>nn (c_cut (fun a w=>K 73 [(1,.pointer (some (⟨Ab,0,none⟩:Addr)))] a ∧ St [] w0 w [([Ab],Ar)] ∧ d_impl_PlanOk_J2 fu x1 = some r) ?_ ?_))
 · rintro a Cj ⟨k,m,h⟩
   unfold d_impl_PlanOk_J2 at h
   refine wp_seq (wr (sv k z (r_fa fa58_0 k z z) fun a k=>sv k z (r_ldb t155 m 0 Ae 0 k z z z z z) fun a k=>sv k z (r_len (α:=Carton) Ac k underlying55 z z) fun a k=>pN 1 k z fun a k=>nn (wp_block (c_loop (fun n a w=>∃ (Aa:Int),K 73 [(1,.pointer (some (⟨Ab,0,none⟩:Addr))),(20,v5),(21,I ((x1.fCartons.length:Int))),(22,I Aa)] a ∧ St [] w0 w [([Ab],Ar)] ∧ d_impl_PlanOk_L1 fu x1 n Aa = some r) ?_ ?_ fu _ _ ?_))))
   · rintro a w ⟨_,_,_,h⟩
     exact nS h
   · rintro Bq a Cb ⟨Aa,k,m,h⟩
     rw [d_impl_PlanOk_L1_s] at h
     unfold d_impl_PlanOk_L1_B at h
     refine wr (pN 1 k z fun a k=>nn (wp_seq (cI h k z (fun Bj h=>?_) fun Bj h=>?_)))
     · refine wp_skip (nm_then ?_)
       refine c_cut (fun a w=>K 73 [(1,.pointer (some (⟨Ab,0,none⟩:Addr))),(20,v5),(21,I ((x1.fCartons.length:Int))),(22,I Aa)] a ∧ St [] w0 w [([Ab],Ar)] ∧ d_impl_PlanOk_J1 fu (d_impl_PlanOk_L1 fu x1 Bq) Aa = some r) ?_ ?_
       · rintro a Cg ⟨k,m,h⟩
         unfold d_impl_PlanOk_J1 at h
         refine wp_region_lit (pN 2 k z fun a k=>nn ?_)
         exact ⟨w64 (Aa + 1),k.keep [1,20,21,22] z,m.sel [0] z (by decide),h⟩
       refine wp_block (wr (pN 1 k z fun a k=>oE h fun Av As h=>sv k z (r_ixa Ac As k ts55 z z z) fun a k=>?_))
       obtain ⟨Ck,By,Bv,Bb,Bk,Bi⟩:=rd_get Ac (ix_some As).2.2
       obtain ⟨Az,_,rfl,rfl,Aq⟩:=Bb
       refine sv k z (r_ldA ta83 (Bk.agr (m.a00 (Enc.rd_lt Ac)) Bi) z k z z) fun a k=>s_alloc (cs:=[I 0,I 0,.slice none 0 0]) m k zeroValue83 z z z z z fun Bu Cc a k m e Br=>pN 1 k z fun a k=>s_stb (cs':=[I Av.fType,I Av.fGroup,Az]) sizeOf83 m 0 Br 0 k z z z z z z z z z z (allc z (allc z (allc (rd_o Aq) alln))) fun Bx a k e m Ap=>nn (wr (sv k z (r_fa fa58_1 k z z) fun a k=>sv k z (r_ldb t156 m 1 Ae 1 k z z z z z) fun a k=>pN 1 k z fun a k=>oE h fun Am At h=>sv k z (r_ixa Ao At k ts56 z z z) fun a k=>sv k z (r_lde Ao (m.a00 (Enc.rd_lt Ao)) At ta89 k z z) fun a k=>?_))
       refine s_alloc (cs:=[I 0,I 0,I 0,I 0]) m k zeroValue89 z z z z z fun Cl Ce a k m e Bo=>s_stb (cs':=[I Am.fPallet,I Am.fX,I Am.fY,I Am.fZ]) sizeOf89 m 0 Bo 0 k z z z z z z z z z z z fun Ci a k e m Al=>nn (wr (sv k z (r_fa fa83_0 k z z) fun a k=>sv k z (r_ldb t13 m 1 Ap 0 k z z z z z) fun a k=>oE h fun Bp Bm h=>cE k m call139 z z z (c_impl_in fu _ _ _  Bm) fun Cm e a k m=>pN 2 k z fun a k=>bsplit (!Bp) (fun Af=>?_) (fun Af=>?_)))
       · have h:=bif_t Af h
         refine rB k 36 z Af fun k=>pN 35 k z fun a k=>?_
         have k:=k.keep [1,20,21,22,71] z
         refine nn (wp_cond_true (k.ev z) (wr (pN 1 k z fun a k=>nn (wp_ret (rt_block (rt_then (rt_then (rt_block (rt_then ?_)))))))))
         refine fS h k m z z
       have h:=bif_f Af h
       refine rB k 36 z Af fun k=>sv k z (r_fa fa83_1 k z z) fun a k=>sv k z (r_ldb t13 m 1 Ap 1 k z z z z z) fun a k=>oE h fun Be Bg h=>cE k m call139 z z z (c_impl_in fu _ _ _  Bg) fun Bz e a k m=>pN 3 k z fun a k=>bsplit (!Be) (fun Ag=>?_) (fun Ag=>?_)
       · have h:=bif_t Ag h
         refine rB k 42 z Ag fun k=>pN 29 k z fun a k=>?_
         have k:=k.keep [1,20,21,22,71] z
         refine nn (wp_cond_true (k.ev z) (wr (pN 1 k z fun a k=>nn (wp_ret (rt_block (rt_then (rt_then (rt_block (rt_then ?_)))))))))
         refine fS h k m z z
       have h:=bif_f Ag h
       refine rB k 42 z Ag fun k=>sv k z (r_fa fa83_2 k z z) fun a k=>sv k z (r_ldb t163 m 1 Ap 2 k z z z z z) fun a k=>oE h fun Bc Bh h=>cE k m call221 z z z (c_impl_unitsRight fu _ (Enc.rd_agr Aq (m.a00 (Enc.rd_lt Aq))) Bh) fun Bw e a k m=>pN 3 k z fun a k=>bsplit (!Bc) (fun Ad=>?_) (fun Ad=>?_)
       · have h:=bif_t Ad h
         refine rB k 48 z Ad fun k=>pN 23 k z fun a k=>?_
         have k:=k.keep [1,20,21,22,71] z
         refine nn (wp_cond_true (k.ev z) (wr (pN 1 k z fun a k=>nn (wp_ret (rt_block (rt_then (rt_then (rt_block (rt_then ?_)))))))))
         refine fS h k m z z
       have h:=bif_f Ad h
       refine rB k 48 z Ad fun k=>sv k z (r_fa fa89_0 k z z) fun a k=>sv k z (r_ldb t13 m 0 Al 0 k z z z z z) fun a k=>oE h fun Bl Ba h=>cE k m call153 z z z (c_impl_isPlace fu _  Ba) fun Cf e a k m=>pN 3 k z fun a k=>bsplit (!Bl) (fun Ai=>?_) (fun Ai=>?_)
       · have h:=bif_t Ai h
         refine rB k 54 z Ai fun k=>pN 17 k z fun a k=>?_
         have k:=k.keep [1,20,21,22,71] z
         refine nn (wp_cond_true (k.ev z) (wr (pN 1 k z fun a k=>nn (wp_ret (rt_block (rt_then (rt_then (rt_block (rt_then ?_)))))))))
         refine fS h k m z z
       have h:=bif_f Ai h
       refine rB k 54 z Ai fun k=>sv k z (r_fa fa89_1 k z z) fun a k=>sv k z (r_ldb t13 m 0 Al 1 k z z z z z) fun a k=>oE h fun Bt Ax h=>cE k m call153 z z z (c_impl_isPlace fu _  Ax) fun Ca e a k m=>pN 3 k z fun a k=>bsplit (!Bt) (fun Aj=>?_) (fun Aj=>?_)
       · have h:=bif_t Aj h
         refine rB k 60 z Aj fun k=>pN 11 k z fun a k=>?_
         have k:=k.keep [1,20,21,22,71] z
         refine nn (wp_cond_true (k.ev z) (wr (pN 1 k z fun a k=>nn (wp_ret (rt_block (rt_then (rt_then (rt_block (rt_then ?_)))))))))
         refine fS h k m z z
       have h:=bif_f Aj h
       refine rB k 60 z Aj fun k=>sv k z (r_fa fa89_2 k z z) fun a k=>sv k z (r_ldb t13 m 0 Al 2 k z z z z z) fun a k=>oE h fun Ay Bn h=>cE k m call153 z z z (c_impl_isPlace fu _  Bn) fun Ch e a k m=>pN 3 k z fun a k=>bsplit (!Ay) (fun Ak=>?_) (fun Ak=>?_)
       · have h:=bif_t Ak h
         refine rB k 66 z Ak fun k=>pN 5 k z fun a k=>?_
         have k:=k.keep [1,20,21,22,71] z
         refine nn (wp_cond_true (k.ev z) (wr (pN 1 k z fun a k=>nn (wp_ret (rt_block (rt_then (rt_then (rt_block (rt_then ?_)))))))))
         refine fS h k m z z
       have h:=bif_f Ak h
       refine rB k 66 z Ak fun k=>sv k z (r_fa fa89_3 k z z) fun a k=>sv k z (r_ldb t13 m 0 Al 3 k z z z z z) fun a k=>oE h fun Cn Bs h=>cE k m call153 z z z (c_impl_isPlace fu _  Bs) fun Cd e a k m=>pN 2 k z fun a k=>?_
       have k:=k.keep [1,20,21,22,71] z
       refine nn (cI h k z (fun Aw h=>?_) fun Aw h=>?_)
       · refine wr (pN 1 k z fun a k=>nn (wp_ret (rt_block (rt_then (rt_then (rt_block (rt_then ?_)))))))
         refine fS h k m z z
       refine wp_skip (nm_block (nm_then ?_))
       exact ⟨k.keep [1,20,21,22] z,m.sel [2] z (by decide),h⟩
     refine wp_exit (ex_then (ex_then (ex_same (nm_then ?_))))
     refine wr (pN 1 k z fun a k=>nn (wp_ret (fS h k m z z)))
   exact ⟨0,k.keep [1,20,21,22] z,m.sel [0] z (by decide),h⟩
 refine wr (sv k z (r_fa fa58_1 k z z) fun a k=>sv k z (r_ldb t156 m 0 Ae 1 k z z z z z) fun a k=>sv k z (r_len (α:=Spot) Ao k underlying56 z z) fun a k=>sv k z (r_fa fa58_0 k z z) fun a k=>sv k z (r_ldb t155 m 0 Ae 0 k z z z z z) fun a k=>sv k z (r_len (α:=Carton) Ac k underlying55 z z) fun a k=>pN 2 k z fun a k=>bsplit (((x1.fSpots.length:Int)) != ((x1.fCartons.length:Int))) (fun Ah=>?_) (fun Ah=>?_))
 · have h:=bif_t Ah h
   refine rB k 13 z Ah fun k=>pN 5 k z fun a k=>nn (wp_cond_true (k.ev z) (wr (pN 1 k z fun a k=>nn (wp_ret (rt_then ?_)))))
   refine fS h k m z z
 have h:=bif_f Ah h
 refine rB k 13 z Ah fun k=>sv k z (r_fa fa58_0 k z z) fun a k=>sv k z (r_ldb t155 m 0 Ae 0 k z z z z z) fun a k=>sv k z (r_len (α:=Carton) Ac k underlying55 z z) fun a k=>pN 2 k z fun a k=>nn (cI h k z (fun Bf h=>?_) fun Bf h=>?_)
 · refine wr (pN 1 k z fun a k=>nn (wp_ret (rt_then ?_)))
   refine fS h k m z z
 refine wp_skip (nm_then ?_)
 exact ⟨k.keep [1] z,m.sel [0] z (by decide),h⟩
theorem c_slices_IndexFunc_impl_Carton_impl_Carton (fu:Nat) {w0:World} (Ab:List Carton) (f5:Carton → Option Bool) {v2:Value} {F3:List Nat} (Aa:rd w0 F3 [v2] Ab) {v6:Value} (As:FnOk1 Tryz.prog w0 v6 f5) {r:Int}
    (h:d_slices_IndexFunc_impl_Carton_impl_Carton fu Ab f5 = some r) :
    Calls Tryz.prog 222 #[v2,v6] w0 fun e w=>e = .returned (I r) ∧ Ext [] w0 w:=by
 refine enter (vs:=[_,_]) func222 z ntmps222 z fun a k=>?_
 have m:=St.start w0
 obtain ⟨Aj,Ah,rfl,Al,Ai⟩:=As
 unfold d_slices_IndexFunc_impl_Carton_impl_Carton at h
 refine wr (pN 1 k z fun a k=>nn (wp_seq (wr (pN 1 k z fun a k=>sv k z (r_len (α:=Carton) Aa k underlying55 z z) fun a k=>pN 1 k z fun a k=>nn (wp_block (c_loop (fun n a w=>∃ (Ac:Int),K 19 [(0,v2),(1,(.func (.func Aj) #[] Ah.toArray)),(7,I ((Ab.length:Int))),(8,I Ac)] a ∧ St [] w0 w [] ∧ d_slices_IndexFunc_impl_Carton_impl_Carton_L1 fu Ab f5 n Ac = some r) ?_ ?_ fu _ _ ?_))))))
 · rintro a w ⟨_,_,_,h⟩
   exact nS h
 · rintro At a Au ⟨Ac,k,m,h⟩
   rw [d_slices_IndexFunc_impl_Carton_impl_Carton_L1_s] at h
   unfold d_slices_IndexFunc_impl_Carton_impl_Carton_L1_B at h
   refine wr (pN 1 k z fun a k=>nn (wp_seq (cI h k z (fun Ag h=>?_) fun Ag h=>?_)))
   · refine wp_skip (nm_then ?_)
     refine wp_seq (wp_block (wr (pN 2 k z fun a k=>nn (wr (pN 3 k z fun a k=>oE h fun Ad Ae h=>sv k z (r_ixa Aa Ae k ts55 z z z) fun a k=>?_)))))
     obtain ⟨Ba,Aw,Ax,Am,Ak,Ao⟩:=rd_get Aa (ix_some Ae).2.2
     obtain ⟨Ar,_,rfl,rfl,Af⟩:=Am
     refine sv k z (r_ldA ta83 (Ak.agr (m.a00 (Enc.rd_lt Aa)) Ao) z k z z) fun a k=>oE h fun Az Aq h=>s_callv k Al z z z z z z (Ai _ _ _ _ m.ext ⟨_,_,z,(show rd _ _ [I Ad.fType,I Ad.fGroup,Ar] (Ad:Carton) from ⟨_,_,z,z,(Enc.rd_agr Af (m.a00 (Enc.rd_lt Af)))⟩)⟩ Aq) fun Av Ay hR=>?_
     obtain ⟨rfl,e⟩:=hR
     refine ⟨_,z,fun a k=>?_⟩
     have m:=m.step e
     refine nn (cI h k z (fun Ap h=>?_) fun Ap h=>?_)
     · refine wr (pN 2 k z fun a k=>nn (wp_ret (rt_block (rt_then (rt_then (rt_block (rt_then ?_)))))))
       refine fS h k m z z
     refine wp_skip (nm_block (nm_then ?_))
     refine wp_region_lit (pN 2 k z fun a k=>nn ?_)
     exact ⟨w64 (Ac + 1),k.keep [0,1,7,8] z,m.sel [] z (by decide),h⟩
   refine wp_exit (ex_then (ex_then (ex_same (nm_then ?_))))
   refine wr (pN 1 k z fun a k=>nn (wp_ret (fS h k m z z)))
 exact ⟨0,k.keep [0,1,7,8] z,m.sel [] z (by decide),h⟩
theorem c_slices_ContainsFunc_impl_Carton_impl_Carton (fu:Nat) {w0:World} (Aa:List Carton) (f5:Carton → Option Bool) {v2:Value} {F3:List Nat} (Ab:rd w0 F3 [v2] Aa) {v6:Value} (Ah:FnOk1 Tryz.prog w0 v6 f5) {r:Bool}
    (h:d_slices_ContainsFunc_impl_Carton_impl_Carton fu Aa f5 = some r) :
    Calls Tryz.prog 117 #[v2,v6] w0 fun e w=>e = .returned (.bool (r)) ∧ Ext [] w0 w:=by
 refine enter (vs:=[_,_]) func117 z ntmps117 z fun a k=>?_
 have m:=St.start w0
 obtain ⟨Aj,Ai,rfl,Ad,Af⟩:=Ah
 unfold d_slices_ContainsFunc_impl_Carton_impl_Carton at h
 refine wr (pN 1 k z fun a k=>nn (wr (pN 2 k z fun a k=>oE h fun Ak Ae h=>cE k m call222 z z z (c_slices_IndexFunc_impl_Carton_impl_Carton fu _ _ (Enc.rd_agr Ab (m.a00 (Enc.rd_lt Ab))) ⟨_,_,z,Ad,fun w Ac Ag r e=>Af w Ac Ag r (m.ext.trans e (by simp))⟩ Ae) fun Al e a k m=>pN 2 k z fun a k=>nn (wp_ret (fS h k m z z)))))
theorem c_impl_Check_1 (fu:Nat) {w0:World} (c1:Carton) {Aa:List Value} {F3:List Nat} (Ac:rd w0 F3 Aa c1) {r:Bool}
    (h:d_impl_Check_1 fu c1 = some r) :
    Calls Tryz.prog 118 #[.agg Aa.toArray] w0 fun e w=>e = .returned (.bool (r)) ∧ Ext [] w0 w:=by
 refine enter (vs:=[_]) func118 z ntmps118 z fun a k=>?_
 have m:=St.start w0
 obtain ⟨v5,_,rfl,rfl,Ad⟩:=Ac
 unfold d_impl_Check_1 at h
 refine wr (s_box (cs:=[I c1.fType,I c1.fGroup,v5]) m k z z z z z z fun b7 w9 a k m e Ab=>pN 1 k z fun a k=>nn (wr (sv k z (r_fa fa83_2 k z z) fun a k=>sv k z (r_ldb t163 m 0 Ab 2 k z z z z z) fun a k=>sv k z (r_len (α:=Int) Ad k underlying63 z z) fun a k=>pN 2 k z fun a k=>nn (wp_ret (fS h k m z z)))))
theorem c_impl_allUnits (fu:Nat) {w0:World} (x1:Plan) {Al:List Value} {F3:List Nat} (Ar:rd w0 F3 Al x1) {r:(List Int)}
    (h:d_impl_allUnits fu x1 = some r) :
    Calls Tryz.prog 119 #[.agg Al.toArray] w0 fun e w=>∃ (v0:Value) (G0:List Nat),e = .returned (v0) ∧ Ext [] w0 w ∧ ow w G0 [v0] r ∧ (∀ b ∈ G0,w0.heap.size ≤ b):=by
 refine enter (vs:=[_]) func119 z ntmps119 z fun a k=>?_
 have m:=St.start w0
 obtain ⟨v5,F6,v7,F8,rfl,rfl,Ac,Bp⟩:=Ar
 unfold d_impl_allUnits at h
 refine wr (s_box (cs:=[v5,v7]) m k z z z z z z fun Bo Bl a k m e As=>pN 1 k z fun a k=>nn (wr (s_bs (cs:=[]) (ps:=[]) te63 m k z z z z z z z (by decide) z (by exact (List.forall_mem_nil _)) fun Ak Aw Bf a k m e Az=>?_)))
 have Be:=ow_bx Az ([]:List Int) z z z
 refine pN 1 k z fun a k=>nn (wp_seq (wr (sv k z (r_fa fa58_0 k z z) fun a k=>sv k z (r_ldb t155 m 1 As 0 k z z z z z) fun a k=>sv k z (r_len (α:=Carton) Ac k underlying55 z z) fun a k=>pN 1 k z fun a k=>nn (wp_block (c_loop (fun n a w=>∃ (Ae:List Int) (Af:Value) (Aa:List Nat) (Ad:World) (Ab:Int),K 20 [(3,Af),(8,v5),(9,I ((x1.fCartons.length:Int))),(10,I Ab)] a ∧ St [] w0 w [(Aa,Ad)] ∧ ow Ad Aa [Af] Ae ∧ d_impl_allUnits_L1 fu x1 n Ae Ab = some r) ?_ ?_ fu _ _ ?_)))))
 · rintro a w ⟨_,_,_,_,_,_,_,_,h⟩
   exact nS h
 · rintro Bg a Bi ⟨Ae,Af,Aa,Ad,Ab,k,m,Ah,h⟩
   rw [d_impl_allUnits_L1_s] at h
   unfold d_impl_allUnits_L1_B at h
   refine wr (pN 1 k z fun a k=>nn (wp_seq (cI h k z (fun At h=>?_) fun At h=>?_)))
   · refine wp_skip (nm_then ?_)
     refine wp_seq (wp_block (wr (oE h fun Ai Aj h=>sv k z (r_ixa Ac Aj k ts55 z z z) fun a k=>?_)))
     obtain ⟨Bn,Bj,Bh,Ax,Ao,Bc⟩:=rd_get Ac (ix_some Aj).2.2
     obtain ⟨Aq,_,rfl,rfl,Ag⟩:=Ax
     refine sv k z (r_ldA ta83 (Ao.agr (m.a00 (Enc.rd_lt Ac)) Bc) z k z z) fun a k=>s_alloc (cs:=[I 0,I 0,.slice none 0 0]) m k zeroValue83 z z z z z fun Bq Bm a k m e Av=>s_stb (cs':=[I Ai.fType,I Ai.fGroup,Aq]) sizeOf83 m 0 Av 0 k z z z z z z z z z z (allc z (allc z (allc (rd_o Ag) alln))) fun Bk a k e m Bb=>nn (wp_region_lit (pN 1 k z fun a k=>sv k z (r_fa fa83_2 k z z) fun a k=>sv k z (r_ldb t163 m 0 Bb 2 k z z z z z) fun a k=>oE h fun Au Bd h=>s_appF Bd te63 z m 1 Ah (News.rd (Enc.rd_agr Ag (m.a00 (Enc.rd_lt Ag)))) z z k z z z z z z z fun Ap Am Ba a k e m Ay=>pN 1 k z fun a k=>wpList_nil (nm_block (nm_then ?_))))
     refine wp_region_lit (pN 2 k z fun a k=>nn ?_)
     exact ⟨Au,Ap,Am,Ba,w64 (Ab + 1),k.keep [3,8,9,10] z,m.sel [1] z (by decide),Ay,h⟩
   refine wp_exit (ex_then (ex_then (ex_same (nm_then ?_))))
   refine wr (pN 2 k z fun a k=>nn (wp_ret ?_))
   cases h
   exact finR1 k z (RV.tmp k z) ⟨_,Aa,z,m.ext,(Enc.ow_agr Ah (m.a 0 z)),(m.fresh 0 z)⟩
 exact ⟨([]:List Int),(.slice (some ⟨Ak,0,none⟩) 0 0),[Ak],Aw,0,k.keep [3,8,9,10] z,m.sel [0] z (by decide),Be,h⟩

end Go.Proofs.YtkkfmjpbiimkbaaGreat
