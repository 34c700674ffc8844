/- FnExactOneEach: the walks of functions that it reaches (ExactOneEachBWi,part 1). Printed by gen.py. -/
import Derived.Test.YtcboeijpplllfaaGreatExactOneEachBT
set_option maxRecDepth 20000
set_option linter.unusedSimpArgs false
set_option linter.unusedVariables false
set_option linter.unnecessarySimpa false
namespace Go.Proofs.YtcboeijpplllfaaGreat
open Go Go.RowKit
open Enc (rd ow)
open Arg (argv)
open Ret (retv)
open Go.Proofs.Tryz


theorem c_impl_TypeById_1 (fu:Nat) {w0:World} (t1:Typ) (x2:Int) {b3:Nat} (Aa:bx w0 b3 [I x2] 3) {r:Bool}
    (h:d_impl_TypeById_1 fu t1 x2 = some r) :
    Calls Tryz.prog 59 #[.agg (Flat.e (t1)).toArray,pt b3] w0 fun e w=>e = .returned (.bool (r)) ∧ Ext [] w0 w:=by
 refine en (vs:=[_,_]) func59 z ntmps59 z fun a k m=>?_;unfold d_impl_TypeById_1 at h;refine wr (s_box (cs:=[I t1.fId,I t1.fW,I t1.fH,I t1.fD,I t1.fTare,I t1.fGram,I t1.fCost]) m k z z z z z z fun b5 w7 a k m e Ab=>pN 1 k z fun a k=>nn (wr (fl fa58_0 t13 m 0 Ab k z z fun a k=>sv k z (r_ld1 t13 (r:=[]) (Aa.at (m.a00 Aa.lt1) 0 1 z z z) k z z) fun a k=>pN 2 k z fun a k=>nn (wp_ret (fS h k m z z)))))
theorem c_slices_IndexFunc_impl_Type_impl_Type (fu:Nat) {w0:World} (Ab:List Typ) (f5:Typ → Option Bool) {v2:Value} {F3:List Nat} (Ac:rd w0 F3 [v2] Ab) {v6:Value} (Aj:FnOk1 Tryz.prog w0 v6 f5) {r:Int}
    (h:d_slices_IndexFunc_impl_Type_impl_Type fu Ab f5 = some r) :
    Calls Tryz.prog 58 #[v2,v6] w0 fun e w=>e = .returned (I r) ∧ Ext [] w0 w:=by
 refine en (vs:=[_,_]) func58 z ntmps58 z fun a k m=>?_;obtain ⟨Al,Ak,rfl,Ae,Ag⟩:=Aj;unfold d_slices_IndexFunc_impl_Type_impl_Type at h;refine wr (pN 1 k z fun a k=>nn (wp_seq (wr (pN 1 k z fun a k=>sv k z (r_len (α:=Typ) Ac k underlying37 z z) fun a k=>pN 1 k z fun a k=>nn (wp_block (c_loop (fun n a w=>∃ (Aa:Int),K 19 [(0,v2),(1,(.func (.func Al) #[] Ak.toArray)),(7,I ((Ab.length:Int))),(8,I Aa)] a ∧ St [] w0 w [] ∧ d_slices_IndexFunc_impl_Type_impl_Type_L1 fu Ab f5 n Aa = some r) ?_ ?_ fu _ _ ?_))))))
 · rintro a w ⟨_,_,_,h⟩;exact nS h
 · rintro Ao a Aq ⟨Aa,k,m,h⟩;rw [d_slices_IndexFunc_impl_Type_impl_Type_L1.eq_2] at h;unfold d_slices_IndexFunc_impl_Type_impl_Type_L1_B at h;refine wr (pN 1 k z fun a k=>nn (wp_seq (cI h k z (fun Ah h=>?_) fun Ah h=>?_)))
   · refine wp_skip (nm_then ?_);refine wp_seq (wp_block (wr (pN 2 k z fun a k=>nn (wr (pN 3 k z fun a k=>oE h fun Ap Ad h=>sv k z (r_ixa Ac Ad k ts37 z z z) fun a k=>sv k z (r_lde Ac (m.a00 (Enc.rd_lt Ac)) Ad ta58 k z z) fun a k=>oE h fun As Ai h=>s_callv k Ae z z z z z z (Ag _ _ _ _ m.ext z Ai) fun Am Ar hR=>?_)))));obtain ⟨rfl,e⟩:=hR;refine ⟨_,z,fun a k=>?_⟩;have m:=m.step e;refine nn (cI h k z (fun Af h=>?_) fun Af h=>?_)
     · refine wr (pN 2 k z fun a k=>nn (wp_ret (rt_block (rt_then (rt_then (rt_block (rt_then ?_)))))));refine fS h k m z z
     refine wp_skip (nm_block (nm_then ?_));refine wp_region_lit (pN 2 k z fun a k=>nn ?_);exact ⟨w64 (Aa + 1),k.keep [0,1,7,8] z,m.sl [] z,h⟩
   refine wp_exit (ex_then (ex_then (ex_same (nm_then ?_))));refine wr (pN 1 k z fun a k=>nn (wp_ret (fS h k m z z)))
 exact ⟨0,k.keep [0,1,7,8] z,m.sl [] z,h⟩
theorem c_impl_TypeById (fu:Nat) {w0:World} (r1:Request) (Ac:Int) {Ae:List Value} {F3:List Nat} (Ap:rd w0 F3 Ae r1) {r:Typ × Bool}
    (h:d_impl_TypeById fu r1 Ac = some r) :
    Calls Tryz.prog 32 #[.agg Ae.toArray,I Ac] w0 fun e w=>e = .returned (.tuple #[.agg (Flat.e r.1).toArray,.bool (r.2)]) ∧ Ext [] w0 w:=by
 refine en (vs:=[_,_]) func32 z ntmps32 z fun a k m=>?_;obtain ⟨v6,F7,v8,F9,Ah,Au,rfl,rfl,Ax,Ab,Bb⟩:=Ap;unfold d_impl_TypeById at h;refine wr (s_box (cs:=(cR r1 v6 v8 Ah)) m k z z z z z z fun At Ba a k m e Af=>s_box (cs:=[I Ac]) m k z z z z z z fun Ai Ar a k m e Aj=>s_alloc (cs:=[I 0,I 0,I 0,I 0,I 0,I 0,I 0]) m k zeroValue58 z z z z z fun Bc Bd a k m e Ag=>pN 1 k z fun a k=>nn (wr (fl fa40_4 t137 m 2 Af k z z fun a k=>pN 1 k z fun a k=>oE h fun Ay Am h=>?_)));refine cC k m call58 z (c_slices_IndexFunc_impl_Type_impl_Type fu _ _ (m.r Ab) ⟨59,[pt Ai],z,call59,fun w Av Az r e Ao hx=>by subst Ao; have m:=m.step e; exact c_impl_TypeById_1 fu _ _ (Aj.agr (m.a 1 rfl) (by simp)) hx⟩ Am) fun As e a k m=>pN 1 k rfl fun a k=>nn (wp_seq (wr (pN 2 k rfl fun a k=>nn (cI h k rfl (fun Aq h=>?_) fun Aq h=>?_))))
 · refine wr (sv k z (r_build bt58 k (cs:=#[I 0,I 0,I 0,I 0,I 0,I 0,I 0]) (ps:=[]) z z (by kernel_rfl)) fun a k=>sT (cs':=[I 0,I 0,I 0,I 0,I 0,I 0,I 0]) sizeOf58 m 0 Ag 0 k z z fun Aw a k e m Ak=>pN 1 k z fun a k=>nn (wp_ret (rt_then ?_)));cases h;exact finR2 k z (RV.cA k z ta58 (Ak.at (m.a 0 z) 0 7 z z z) z) (RV.tmp k z) ⟨z,m.ext⟩
 refine wp_skip (nm_then ?_);refine wr (fl fa40_4 t137 m 2 Af k z z fun a k=>pN 1 k z fun a k=>oE h fun Aa Ad h=>sv k z (r_ixa Ab Ad k ts37 z z z) fun a k=>sv k z (r_lde Ab (m.a00 (Enc.rd_lt Ab)) Ad ta58 k z z) fun a k=>sT (cs':=[I Aa.fId,I Aa.fW,I Aa.fH,I Aa.fD,I Aa.fTare,I Aa.fGram,I Aa.fCost]) sizeOf58 m 0 Ag 0 k z z fun Be a k e m Al=>pN 1 k z fun a k=>nn (wp_ret ?_));cases h;exact finR2 k z (RV.cA k z ta58 (Al.at (m.a 0 z) 0 7 z z z) z) (RV.tmp k z) ⟨z,m.ext⟩
theorem c_impl_MasterOf (fu:Nat) {w0:World} (r1:Request) {Ad:List Value} {F3:List Nat} (Ag:rd w0 F3 Ad r1) {r:Typ × Bool}
    (h:d_impl_MasterOf fu r1 = some r) :
    Calls Tryz.prog 74 #[.agg Ad.toArray] w0 fun e w=>e = .returned (.tuple #[.agg (Flat.e r.1).toArray,.bool (r.2)]) ∧ Ext [] w0 w:=by
 refine en (vs:=[_]) func74 z ntmps74 z fun a k m=>?_;obtain ⟨v5,F6,v7,F8,v9,Ao,rfl,rfl,Ac,Ae,Af⟩:=Ag;unfold d_impl_MasterOf at h;refine wr (s_box (cs:=(cR r1 v5 v7 v9)) m k z z z z z z fun Ar Ak a k m e Ab=>s_alloc (cs:=[I 0,I 0,I 0,I 0,I 0,I 0,I 0]) m k zeroValue58 z z z z z fun Aq Al a k m e Ai=>pN 1 k z fun a k=>nn (wr (sv k z (rL ta40 m 1 Ab 0 k z) fun a k=>fl fa40_5 t13 m 1 Ab k z z fun a k=>oE h fun Aa Ah h=>?_)));refine cC k m call32 z (c_impl_TypeById fu _ _ (mkRequest (m.r Ac) (m.r Ae) (m.r Af)) Ah) fun Ap e a k m=>pN 2 k z fun a k=>sT (cs':=[I Aa.1.fId,I Aa.1.fW,I Aa.1.fH,I Aa.1.fD,I Aa.1.fTare,I Aa.1.fGram,I Aa.1.fCost]) sizeOf58 m 0 Ai 0 k z z fun Am a k e m Aj=>pN 1 k z fun a k=>nn (wp_ret ?_);cases h;exact finR2 k z (RV.cA k z ta58 (Aj.at (m.a 0 z) 0 7 z z z) z) (RV.tmp k z) ⟨z,m.ext⟩
theorem c_impl_in (fu:Nat) {w0:World} (n1:Int) (Ab:Int) (Ac:Int)  {r:Bool}
    (h:d_impl_in fu n1 Ab Ac = some r) :
    Calls Tryz.prog 62 #[I n1,I Ab,I Ac] w0 fun e w=>e = .returned (.bool (r)) ∧ Ext [] w0 w:=by
 refine en (vs:=[_,_,_]) func62 z ntmps62 z fun a k m=>?_;unfold d_impl_in at h;refine wr (pN 1 k z fun a k=>nn (wr (pN 4 k z fun a k=>bsplit (decide (n1 ≥ Ab)) (fun Aa=>?_) (fun Aa=>?_))))
 · have h:=bif_t Aa h;refine rB k 10 z Aa fun k=>pN 5 k z fun a k=>nn (wp_ret (fS h k m z z))
 have h:=bif_f Aa h;refine rB k 10 z Aa fun k=>pN 5 k z fun a k=>nn (wp_ret (fS h k m z z))
theorem c_impl_isSide (fu:Nat) {w0:World} (n1:Int)  {r:Bool}
    (h:d_impl_isSide fu n1 = some r) :
    Calls Tryz.prog 102 #[I n1] w0 fun e w=>e = .returned (.bool (r)) ∧ Ext [] w0 w:=by
 refine en (vs:=[_]) func102 z ntmps102 z fun a k m=>?_;unfold d_impl_isSide at h;refine wr (pN 1 k z fun a k=>nn (wr (pN 1 k z fun a k=>oE h fun x2 Aa h=>cC k m call62 z (c_impl_in fu _ _ _  Aa) fun w5 e a k m=>pN 1 k z fun a k=>nn (wp_ret (fS h k m z z)))))
theorem c_impl_PalletOk (fu:Nat) {w0:World} (x1:Pallet)  {r:Bool}
    (h:d_impl_PalletOk fu x1 = some r) :
    Calls Tryz.prog 86 #[.agg (Flat.e (x1)).toArray] w0 fun e w=>e = .returned (.bool (r)) ∧ Ext [] w0 w:=by
 refine en (vs:=[_]) func86 z ntmps86 z fun a k m=>?_;unfold d_impl_PalletOk at h;refine wr (s_box (cs:=[I x1.fW,I x1.fD,I x1.fH,I x1.fGram]) m k z z z z z z fun b2 w4 a k m e Ad=>pN 1 k z fun a k=>nn (wr (fl fa35_0 t13 m 0 Ad k z z fun a k=>oE h fun x5 Ai h=>cC k m call102 z (c_impl_isSide fu _  Ai) fun w9 e a k m=>pN 1 k z fun a k=>bsplit (x5) (fun Ac=>?_) (fun Ac=>?_))))
 · have h:=bif_t Ac h;refine rB k 6 z Ac fun k=>fl fa35_1 t13 m 0 Ad k z z fun a k=>oE h fun Ah Aj h=>cC k m call102 z (c_impl_isSide fu _  Aj) fun Ao e a k m=>pN 2 k z fun a k=>bsplit (Ah) (fun Aa=>?_) (fun Aa=>?_)
   · have h:=bif_t Aa h;refine rB k 11 z Aa fun k=>fl fa35_2 t13 m 0 Ad k z z fun a k=>oE h fun Ag Af h=>cC k m call102 z (c_impl_isSide fu _  Af) fun Ak e a k m=>pN 2 k z fun a k=>bsplit (Ag) (fun Ab=>?_) (fun Ab=>?_)
     · have h:=bif_t Ab h;refine rB k 16 z Ab fun k=>fl fa35_3 t13 m 0 Ad k z z fun a k=>oE h fun Am Ae h=>cC k m call62 z (c_impl_in fu _ _ _  Ae) fun Al e a k m=>pN 2 k z fun a k=>nn (wp_ret (fS h k m z z))
     have h:=bif_f Ab h;refine rB k 16 z Ab fun k=>pN 5 k z fun a k=>nn (wp_ret (fS h k m z z))
   have h:=bif_f Aa h;refine rB k 11 z Aa fun k=>pN 10 k z fun a k=>nn (wp_ret (fS h k m z z))
 have h:=bif_f Ac h;refine rB k 6 z Ac fun k=>pN 15 k z fun a k=>nn (wp_ret (fS h k m z z))
theorem c_slices_IndexFunc_impl_Pair_impl_Pair (fu:Nat) {w0:World} (Ab:List Pair) (f5:Pair → Option Bool) {v2:Value} {F3:List Nat} (Ac:rd w0 F3 [v2] Ab) {v6:Value} (Aj:FnOk1 Tryz.prog w0 v6 f5) {r:Int}
    (h:d_slices_IndexFunc_impl_Pair_impl_Pair fu Ab f5 = some r) :
    Calls Tryz.prog 103 #[v2,v6] w0 fun e w=>e = .returned (I r) ∧ Ext [] w0 w:=by
 refine en (vs:=[_,_]) func103 z ntmps103 z fun a k m=>?_;obtain ⟨Al,Ak,rfl,Ae,Ag⟩:=Aj;unfold d_slices_IndexFunc_impl_Pair_impl_Pair at h;refine wr (pN 1 k z fun a k=>nn (wp_seq (wr (pN 1 k z fun a k=>sv k z (r_len (α:=Pair) Ac k underlying36 z z) fun a k=>pN 1 k z fun a k=>nn (wp_block (c_loop (fun n a w=>∃ (Aa:Int),K 19 [(0,v2),(1,(.func (.func Al) #[] Ak.toArray)),(7,I ((Ab.length:Int))),(8,I Aa)] a ∧ St [] w0 w [] ∧ d_slices_IndexFunc_impl_Pair_impl_Pair_L1 fu Ab f5 n Aa = some r) ?_ ?_ fu _ _ ?_))))))
 · rintro a w ⟨_,_,_,h⟩;exact nS h
 · rintro Ao a Aq ⟨Aa,k,m,h⟩;rw [d_slices_IndexFunc_impl_Pair_impl_Pair_L1.eq_2] at h;unfold d_slices_IndexFunc_impl_Pair_impl_Pair_L1_B at h;refine wr (pN 1 k z fun a k=>nn (wp_seq (cI h k z (fun Ah h=>?_) fun Ah h=>?_)))
   · refine wp_skip (nm_then ?_);refine wp_seq (wp_block (wr (pN 2 k z fun a k=>nn (wr (pN 3 k z fun a k=>oE h fun Ap Ad h=>sv k z (r_ixa Ac Ad k ts36 z z z) fun a k=>sv k z (r_lde Ac (m.a00 (Enc.rd_lt Ac)) Ad ta88 k z z) fun a k=>oE h fun As Ai h=>s_callv k Ae z z z z z z (Ag _ _ _ _ m.ext z Ai) fun Am Ar hR=>?_)))));obtain ⟨rfl,e⟩:=hR;refine ⟨_,z,fun a k=>?_⟩;have m:=m.step e;refine nn (cI h k z (fun Af h=>?_) fun Af h=>?_)
     · refine wr (pN 2 k z fun a k=>nn (wp_ret (rt_block (rt_then (rt_then (rt_block (rt_then ?_)))))));refine fS h k m z z
     refine wp_skip (nm_block (nm_then ?_));refine wp_region_lit (pN 2 k z fun a k=>nn ?_);exact ⟨w64 (Aa + 1),k.keep [0,1,7,8] z,m.sl [] z,h⟩
   refine wp_exit (ex_then (ex_then (ex_same (nm_then ?_))));refine wr (pN 1 k z fun a k=>nn (wp_ret (fS h k m z z)))
 exact ⟨0,k.keep [0,1,7,8] z,m.sl [] z,h⟩
theorem c_slices_ContainsFunc_impl_Pair_impl_Pair (fu:Nat) {w0:World} (Aa:List Pair) (f5:Pair → Option Bool) {v2:Value} {F3:List Nat} (Ab:rd w0 F3 [v2] Aa) {v6:Value} (Ae:FnOk1 Tryz.prog w0 v6 f5) {r:Bool}
    (h:d_slices_ContainsFunc_impl_Pair_impl_Pair fu Aa f5 = some r) :
    Calls Tryz.prog 87 #[v2,v6] w0 fun e w=>e = .returned (.bool (r)) ∧ Ext [] w0 w:=by
 refine en (vs:=[_,_]) func87 z ntmps87 z fun a k m=>?_;obtain ⟨Al,Ak,rfl,Ah,Ac⟩:=Ae;unfold d_slices_ContainsFunc_impl_Pair_impl_Pair at h;refine wr (pN 1 k z fun a k=>nn (wr (pN 2 k z fun a k=>oE h fun Ai Ag h=>cC k m call103 z (c_slices_IndexFunc_impl_Pair_impl_Pair fu _ _ (m.r Ab) ⟨_,_,z,Ah,fun w Af Ad r e=>Ac w Af Ad r (m.ext.trans e (by simp))⟩ Ag) fun Aj e a k m=>pN 2 k z fun a k=>nn (wp_ret (fS h k m z z)))))
theorem c_impl_BoundsOk_1 (fu:Nat) {w0:World} (p1:Pair)  {r:Bool}
    (h:d_impl_BoundsOk_1 fu p1 = some r) :
    Calls Tryz.prog 88 #[.agg (Flat.e (p1)).toArray] w0 fun e w=>e = .returned (.bool (r)) ∧ Ext [] w0 w:=by
 refine en (vs:=[_]) func88 z ntmps88 z fun a k m=>?_;unfold d_impl_BoundsOk_1 at h;refine wr (s_box (cs:=[I p1.fA,I p1.fB]) m k z z z z z z fun b2 w4 a k m e Ab=>pN 1 k z fun a k=>nn (wr (fl fa88_0 t13 m 0 Ab k z z fun a k=>oE h fun x5 Ac h=>cC k m call62 z (c_impl_in fu _ _ _  Ac) fun w9 e a k m=>pN 2 k z fun a k=>bsplit (!x5) (fun Aa=>?_) (fun Aa=>?_))))
 · have h:=bif_t Aa h;refine rB k 7 z Aa fun k=>pN 6 k z fun a k=>nn (wp_ret (fS h k m z z))
 have h:=bif_f Aa h;refine rB k 7 z Aa fun k=>fl fa88_1 t13 m 0 Ab k z z fun a k=>oE h fun Ae Ad h=>cC k m call62 z (c_impl_in fu _ _ _  Ad) fun Af e a k m=>pN 3 k z fun a k=>nn (wp_ret (fS h k m z z))
theorem c_slices_ContainsFunc_impl_Type_impl_Type (fu:Nat) {w0:World} (Aa:List Typ) (f5:Typ → Option Bool) {v2:Value} {F3:List Nat} (Ab:rd w0 F3 [v2] Aa) {v6:Value} (Ae:FnOk1 Tryz.prog w0 v6 f5) {r:Bool}
    (h:d_slices_ContainsFunc_impl_Type_impl_Type fu Aa f5 = some r) :
    Calls Tryz.prog 81 #[v2,v6] w0 fun e w=>e = .returned (.bool (r)) ∧ Ext [] w0 w:=by
 refine en (vs:=[_,_]) func81 z ntmps81 z fun a k m=>?_;obtain ⟨Al,Ak,rfl,Ah,Ac⟩:=Ae;unfold d_slices_ContainsFunc_impl_Type_impl_Type at h;refine wr (pN 1 k z fun a k=>nn (wr (pN 2 k z fun a k=>oE h fun Ai Ag h=>cC k m call58 z (c_slices_IndexFunc_impl_Type_impl_Type fu _ _ (m.r Ab) ⟨_,_,z,Ah,fun w Af Ad r e=>Ac w Af Ad r (m.ext.trans e (by simp))⟩ Ag) fun Aj e a k m=>pN 2 k z fun a k=>nn (wp_ret (fS h k m z z)))))
theorem c_impl_TypeOk (fu:Nat) {w0:World} (x1:Typ)  {r:Bool}
    (h:d_impl_TypeOk fu x1 = some r) :
    Calls Tryz.prog 90 #[.agg (Flat.e (x1)).toArray] w0 fun e w=>e = .returned (.bool (r)) ∧ Ext [] w0 w:=by
 refine en (vs:=[_]) func90 z ntmps90 z fun a k m=>?_;unfold d_impl_TypeOk at h;refine wr (s_box (cs:=[I x1.fId,I x1.fW,I x1.fH,I x1.fD,I x1.fTare,I x1.fGram,I x1.fCost]) m k z z z z z z fun b2 w4 a k m e Aa=>pN 1 k z fun a k=>nn (wr (fl fa58_0 t13 m 0 Aa k z z fun a k=>oE h fun x5 Ar h=>cC k m call62 z (c_impl_in fu _ _ _  Ar) fun w9 e a k m=>pN 1 k z fun a k=>bsplit (x5) (fun Ae=>?_) (fun Ae=>?_))))
 · have h:=bif_t Ae h;refine rB k 6 z Ae fun k=>fl fa58_1 t13 m 0 Aa k z z fun a k=>oE h fun Aq Ai h=>cC k m call102 z (c_impl_isSide fu _  Ai) fun Au e a k m=>pN 2 k z fun a k=>bsplit (Aq) (fun Ab=>?_) (fun Ab=>?_)
   · have h:=bif_t Ab h;refine rB k 11 z Ab fun k=>fl fa58_2 t13 m 0 Aa k z z fun a k=>oE h fun Am As h=>cC k m call102 z (c_impl_isSide fu _  As) fun Az e a k m=>pN 2 k z fun a k=>bsplit (Am) (fun Ac=>?_) (fun Ac=>?_)
     · have h:=bif_t Ac h;refine rB k 16 z Ac fun k=>fl fa58_3 t13 m 0 Aa k z z fun a k=>oE h fun At Ao h=>cC k m call102 z (c_impl_isSide fu _  Ao) fun Ba e a k m=>pN 2 k z fun a k=>bsplit (At) (fun Ag=>?_) (fun Ag=>?_)
       · have h:=bif_t Ag h;refine rB k 21 z Ag fun k=>fl fa58_4 t13 m 0 Aa k z z fun a k=>oE h fun Ap Aj h=>cC k m call62 z (c_impl_in fu _ _ _  Aj) fun Av e a k m=>pN 2 k z fun a k=>bsplit (Ap) (fun Ad=>?_) (fun Ad=>?_)
         · have h:=bif_t Ad h;refine rB k 26 z Ad fun k=>fl fa58_5 t13 m 0 Aa k z z fun a k=>oE h fun Ah Ak h=>cC k m call62 z (c_impl_in fu _ _ _  Ak) fun Ax e a k m=>pN 2 k z fun a k=>bsplit (Ah) (fun Af=>?_) (fun Af=>?_)
           · have h:=bif_t Af h;refine rB k 31 z Af fun k=>fl fa58_6 t13 m 0 Aa k z z fun a k=>oE h fun Aw Al h=>cC k m call62 z (c_impl_in fu _ _ _  Al) fun Ay e a k m=>pN 2 k z fun a k=>?_;have k:=k.keep [2] z;refine nn (wp_ret (fS h k m z z))
           have h:=bif_f Af h;refine rB k 31 z Af fun k=>pN 5 k z fun a k=>?_;have k:=k.keep [2] z;refine nn (wp_ret (fS h k m z z))
         have h:=bif_f Ad h;refine rB k 26 z Ad fun k=>pN 10 k z fun a k=>?_;have k:=k.keep [2] z;refine nn (wp_ret (fS h k m z z))
       have h:=bif_f Ag h;refine rB k 21 z Ag fun k=>pN 15 k z fun a k=>?_;have k:=k.keep [2] z;refine nn (wp_ret (fS h k m z z))
     have h:=bif_f Ac h;refine rB k 16 z Ac fun k=>pN 20 k z fun a k=>?_;have k:=k.keep [2] z;refine nn (wp_ret (fS h k m z z))
   have h:=bif_f Ab h;refine rB k 11 z Ab fun k=>pN 25 k z fun a k=>?_;have k:=k.keep [2] z;refine nn (wp_ret (fS h k m z z))
 have h:=bif_f Ae h;refine rB k 6 z Ae fun k=>pN 30 k z fun a k=>?_;have k:=k.keep [2] z;refine nn (wp_ret (fS h k m z z))
theorem c_impl_BoundsOk_2 (fu:Nat) {w0:World} (t1:Typ)  {r:Bool}
    (h:d_impl_BoundsOk_2 fu t1 = some r) :
    Calls Tryz.prog 89 #[.agg (Flat.e (t1)).toArray] w0 fun e w=>e = .returned (.bool (r)) ∧ Ext [] w0 w:=by
 refine en (vs:=[_]) func89 z ntmps89 z fun a k m=>?_;unfold d_impl_BoundsOk_2 at h;refine wr (s_box (cs:=[I t1.fId,I t1.fW,I t1.fH,I t1.fD,I t1.fTare,I t1.fGram,I t1.fCost]) m k z z z z z z fun b2 w4 a k m e Aa=>pN 1 k z fun a k=>nn (wr (sv k z (rL ta58 m 0 Aa 0 k z) fun a k=>oE h fun x5 Ab h=>cC k m call90 z (c_impl_TypeOk fu (t1:Typ)  Ab) fun w9 e a k m=>pN 2 k z fun a k=>nn (wp_ret (fS h k m z z)))))
theorem c_impl_ItemOk (fu:Nat) {w0:World} (x1:Item)  {r:Bool}
    (h:d_impl_ItemOk fu x1 = some r) :
    Calls Tryz.prog 91 #[.agg (Flat.e (x1)).toArray] w0 fun e w=>e = .returned (.bool (r)) ∧ Ext [] w0 w:=by
 refine en (vs:=[_]) func91 z ntmps91 z fun a k m=>?_;unfold d_impl_ItemOk at h;refine wr (s_box (cs:=[I x1.fId,I x1.fW,I x1.fH,I x1.fD,I x1.fGram,I x1.fClass,I x1.fCount]) m k z z z z z z fun b2 w4 a k m e Aa=>pN 1 k z fun a k=>nn (wr (fl fa83_0 t13 m 0 Aa k z z fun a k=>oE h fun x5 Ar h=>cC k m call62 z (c_impl_in fu _ _ _  Ar) fun w9 e a k m=>pN 1 k z fun a k=>bsplit (x5) (fun Ae=>?_) (fun Ae=>?_))))
 · have h:=bif_t Ae h;refine rB k 6 z Ae fun k=>fl fa83_1 t13 m 0 Aa k z z fun a k=>oE h fun Aq Ai h=>cC k m call102 z (c_impl_isSide fu _  Ai) fun Au e a k m=>pN 2 k z fun a k=>bsplit (Aq) (fun Ab=>?_) (fun Ab=>?_)
   · have h:=bif_t Ab h;refine rB k 11 z Ab fun k=>fl fa83_2 t13 m 0 Aa k z z fun a k=>oE h fun Am As h=>cC k m call102 z (c_impl_isSide fu _  As) fun Az e a k m=>pN 2 k z fun a k=>bsplit (Am) (fun Ac=>?_) (fun Ac=>?_)
     · have h:=bif_t Ac h;refine rB k 16 z Ac fun k=>fl fa83_3 t13 m 0 Aa k z z fun a k=>oE h fun At Ao h=>cC k m call102 z (c_impl_isSide fu _  Ao) fun Ba e a k m=>pN 2 k z fun a k=>bsplit (At) (fun Ag=>?_) (fun Ag=>?_)
       · have h:=bif_t Ag h;refine rB k 21 z Ag fun k=>fl fa83_4 t13 m 0 Aa k z z fun a k=>oE h fun Ap Aj h=>cC k m call62 z (c_impl_in fu _ _ _  Aj) fun Av e a k m=>pN 2 k z fun a k=>bsplit (Ap) (fun Ad=>?_) (fun Ad=>?_)
         · have h:=bif_t Ad h;refine rB k 26 z Ad fun k=>fl fa83_5 t13 m 0 Aa k z z fun a k=>oE h fun Ah Ak h=>cC k m call62 z (c_impl_in fu _ _ _  Ak) fun Ax e a k m=>pN 2 k z fun a k=>bsplit (Ah) (fun Af=>?_) (fun Af=>?_)
           · have h:=bif_t Af h;refine rB k 31 z Af fun k=>fl fa83_6 t13 m 0 Aa k z z fun a k=>oE h fun Aw Al h=>cC k m call62 z (c_impl_in fu _ _ _  Al) fun Ay e a k m=>pN 2 k z fun a k=>?_;have k:=k.keep [2] z;refine nn (wp_ret (fS h k m z z))
           have h:=bif_f Af h;refine rB k 31 z Af fun k=>pN 5 k z fun a k=>?_;have k:=k.keep [2] z;refine nn (wp_ret (fS h k m z z))
         have h:=bif_f Ad h;refine rB k 26 z Ad fun k=>pN 10 k z fun a k=>?_;have k:=k.keep [2] z;refine nn (wp_ret (fS h k m z z))
       have h:=bif_f Ag h;refine rB k 21 z Ag fun k=>pN 15 k z fun a k=>?_;have k:=k.keep [2] z;refine nn (wp_ret (fS h k m z z))
     have h:=bif_f Ac h;refine rB k 16 z Ac fun k=>pN 20 k z fun a k=>?_;have k:=k.keep [2] z;refine nn (wp_ret (fS h k m z z))
   have h:=bif_f Ab h;refine rB k 11 z Ab fun k=>pN 25 k z fun a k=>?_;have k:=k.keep [2] z;refine nn (wp_ret (fS h k m z z))
 have h:=bif_f Ae h;refine rB k 6 z Ae fun k=>pN 30 k z fun a k=>?_;have k:=k.keep [2] z;refine nn (wp_ret (fS h k m z z))
theorem c_impl_BoundsOk (fu:Nat) {w0:World} (r1:Request) {As:List Value} {F3:List Nat} (Bo:rd w0 F3 As r1) {r:Bool}
    (h:d_impl_BoundsOk fu r1 = some r) :
    Calls Tryz.prog 75 #[.agg As.toArray] w0 fun e w=>e = .returned (.bool (r)) ∧ Ext [] w0 w:=by
 refine en (vs:=[_]) func75 z ntmps75 z fun a k m=>?_;obtain ⟨v5,F6,v7,F8,v9,Bw,rfl,rfl,Ao,Am,Ah⟩:=Bo;unfold d_impl_BoundsOk at h;refine wr (s_box (cs:=(cR r1 v5 v7 v9)) m k z z z z z z fun Al Ap a k m e Aa=>pN 1 k z fun a k=>nn (c_cut (fun a w=>K 70 [(1,pt Al)] a ∧ St [] w0 w [([Al],Ap)] ∧ d_impl_BoundsOk_J2 fu r1 = some r) ?_ ?_))
 · rintro a Bu ⟨k,m,h⟩;unfold d_impl_BoundsOk_J2 at h;refine wp_seq (wr (fl fa40_3 t136 m 0 Aa k z z fun a k=>oE h fun Cm Bf h=>cC k m call87 z (c_slices_ContainsFunc_impl_Pair_impl_Pair fu _ _ (m.r Ao) ⟨88,[],z,call88,fun w Bs Bq r e Be hx=>by subst Be; have m:=m.step e; exact c_impl_BoundsOk_1 fu _  hx⟩ Bf) fun Ca e a k m=>nn (cI h k rfl (fun Bj h=>?_) fun Bj h=>?_)))
   · refine wr (pN 1 k z fun a k=>nn (wp_ret (rt_then ?_)));refine fS h k m z z
   refine wp_skip (nm_then ?_);refine c_cut (fun a w=>K 70 [(1,pt Al)] a ∧ St [] w0 w [([Al],Ap)] ∧ d_impl_BoundsOk_J1 fu r1 = some r) ?_ ?_
   · rintro a Cd ⟨k,m,h⟩;unfold d_impl_BoundsOk_J1 at h;refine wr (pN 1 k z fun a k=>nn (wp_seq (wr (fl fa40_6 t138 m 0 Aa k z z fun a k=>sv k z (r_len (α:=Item) Ah k underlying38 z z) fun a k=>pN 1 k z fun a k=>nn (wp_block (c_loop (fun n a w=>∃ (Ak:Int) (Aj:Int),K 70 [(3,I Ak),(54,v9),(55,I ((r1.fItems.length:Int))),(56,I Aj)] a ∧ St [] w0 w [] ∧ d_impl_BoundsOk_L1 fu r1 n Ak Aj = some r) ?_ ?_ fu _ _ ?_))))))
     · rintro a w ⟨_,_,_,_,h⟩;exact nS h
     · rintro Cj a Bx ⟨Ak,Aj,k,m,h⟩;rw [d_impl_BoundsOk_L1.eq_2] at h;unfold d_impl_BoundsOk_L1_B at h;refine wr (pN 1 k z fun a k=>nn (wp_seq (cI h k z (fun Bd h=>?_) fun Bd h=>?_)))
       · refine wp_skip (nm_then ?_);refine wp_seq (wp_block (wr (oE h fun Ab Aq h=>sv k z (r_ixa Ah Aq k ts38 z z z) fun a k=>sv k z (r_lde Ah (m.a00 (Enc.rd_lt Ah)) Aq ta83 k z z) fun a k=>s_alloc (cs:=[I 0,I 0,I 0,I 0,I 0,I 0,I 0]) m k zeroValue83 z z z z z fun Cl Cg a k m e Bi=>sT (cs':=[I Ab.fId,I Ab.fW,I Ab.fH,I Ab.fD,I Ab.fGram,I Ab.fClass,I Ab.fCount]) sizeOf83 m 0 Bi 0 k z z fun Bv a k e m Ar=>nn (wp_seq (wr (sv k z (rL ta83 m 0 Ar 0 k z) fun a k=>oE h fun Bz At h=>cC k m call91 z (c_impl_ItemOk fu (Ab:Item)  At) fun Ck e a k m=>?_))))));refine pN 1 k z fun a k=>nn (cI h k z (fun Bg h=>?_) fun Bg h=>?_)
         · refine wr (pN 1 k z fun a k=>nn (wp_ret (rt_then (rt_block (rt_then (rt_then (rt_block (rt_then ?_))))))));refine fS h k m z z
         refine wp_skip (nm_then ?_);refine wp_region_lit (pN 1 k z fun a k=>fl fa83_6 t13 m 0 Ar k z z fun a k=>pN 2 k z fun a k=>wpList_nil (nm_block (nm_then ?_)));refine wp_region_lit (pN 2 k z fun a k=>nn ?_);exact ⟨w64 (Ak + Ab.fCount),w64 (Aj + 1),k.keep [3,54,55,56] z,m.sl [] z,h⟩
       refine wp_exit (ex_then (ex_then (ex_same (nm_then ?_))));refine wr (pN 3 k z fun a k=>nn (wp_ret (fS h k m z z)))
     exact ⟨0,0,k.keep [3,54,55,56] z,m.sl [] z,h⟩
   refine wr (fl fa40_4 t137 m 0 Aa k z z fun a k=>sv k z (r_len (α:=Typ) Am k underlying37 z z) fun a k=>oE h fun Bb Bl h=>cC k m call62 z (c_impl_in fu _ _ _  Bl) fun Cb e a k m=>pN 2 k z fun a k=>bsplit (!Bb) (fun Ac=>?_) (fun Ac=>?_))
   · have h:=bif_t Ac h;refine rB k 36 z Ac fun k=>pN 16 k z fun a k=>?_;have k:=k.keep [1,52] z;refine nn (wp_cond_true (k.ev z) (wr (pN 1 k z fun a k=>nn (wp_ret (rt_then ?_)))));refine fS h k m z z
   have h:=bif_f Ac h;refine rB k 36 z Ac fun k=>fl fa40_4 t137 m 0 Aa k z z fun a k=>oE h fun Bp Bn h=>cC k m call81 z (c_slices_ContainsFunc_impl_Type_impl_Type fu _ _ (m.r Am) ⟨89,[],z,call89,fun w Ce Bt r e Ay hx=>by subst Ay; have m:=m.step e; exact c_impl_BoundsOk_2 fu _  hx⟩ Bn) fun Br e a k m=>pN 2 k rfl fun a k=>bsplit (Bp) (fun Ae=>?_) (fun Ae=>?_)
   · have h:=bif_t Ae h;refine rB k 41 z Ae fun k=>pN 11 k z fun a k=>?_;have k:=k.keep [1,52] z;refine nn (wp_cond_true (k.ev z) (wr (pN 1 k z fun a k=>nn (wp_ret (rt_then ?_)))));refine fS h k m z z
   have h:=bif_f Ae h;refine rB k 41 z Ae fun k=>fl fa40_5 t13 m 0 Aa k z z fun a k=>oE h fun Az Bh h=>cC k m call62 z (c_impl_in fu _ _ _  Bh) fun Ch e a k m=>pN 3 k z fun a k=>bsplit (!Az) (fun Af=>?_) (fun Af=>?_)
   · have h:=bif_t Af h;refine rB k 47 z Af fun k=>pN 5 k z fun a k=>?_;have k:=k.keep [1,52] z;refine nn (wp_cond_true (k.ev z) (wr (pN 1 k z fun a k=>nn (wp_ret (rt_then ?_)))));refine fS h k m z z
   have h:=bif_f Af h;refine rB k 47 z Af fun k=>fl fa40_6 t138 m 0 Aa k z z fun a k=>sv k z (r_len (α:=Item) Ah k underlying38 z z) fun a k=>pN 2 k z fun a k=>?_;have k:=k.keep [1,52] z;refine nn (cI h k z (fun Au h=>?_) fun Au h=>?_)
   · refine wr (pN 1 k z fun a k=>nn (wp_ret (rt_then ?_)));refine fS h k m z z
   refine wp_skip (nm_then ?_);exact ⟨k.keep [1] z,m.sl [0] z,h⟩
 refine wr (fl fa40_0 t13 m 0 Aa k z z fun a k=>oE h fun Aw Bk h=>cC k m call62 z (c_impl_in fu _ _ _  Bk) fun Cc e a k m=>pN 2 k z fun a k=>bsplit (!Aw) (fun Ai=>?_) (fun Ai=>?_))
 · have h:=bif_t Ai h;refine rB k 10 z Ai fun k=>pN 17 k z fun a k=>nn (wp_cond_true (k.ev z) (wr (pN 1 k z fun a k=>?_)));have k:=k.keep [2] z;refine nn (wp_ret (rt_then ?_));refine fS h k m z z
 have h:=bif_f Ai h;refine rB k 10 z Ai fun k=>sv k z (r_fa fa40_1 k z z) fun a k=>sv k z (rL ta35 m 0 Aa 1 k z) fun a k=>oE h fun Bc Ba h=>cC k m call86 z (c_impl_PalletOk fu (r1.fPallet:Pallet)  Ba) fun Ci e a k m=>pN 3 k z fun a k=>bsplit (!Bc) (fun Ag=>?_) (fun Ag=>?_)
 · have h:=bif_t Ag h;refine rB k 16 z Ag fun k=>pN 11 k z fun a k=>nn (wp_cond_true (k.ev z) (wr (pN 1 k z fun a k=>?_)));have k:=k.keep [2] z;refine nn (wp_ret (rt_then ?_));refine fS h k m z z
 have h:=bif_f Ag h;refine rB k 16 z Ag fun k=>fl fa40_2 t13 m 0 Aa k z z fun a k=>oE h fun Bm Av h=>cC k m call62 z (c_impl_in fu _ _ _  Av) fun By e a k m=>pN 3 k z fun a k=>bsplit (!Bm) (fun Ad=>?_) (fun Ad=>?_)
 · have h:=bif_t Ad h;refine rB k 22 z Ad fun k=>pN 5 k z fun a k=>nn (wp_cond_true (k.ev z) (wr (pN 1 k z fun a k=>?_)));have k:=k.keep [2] z;refine nn (wp_ret (rt_then ?_));refine fS h k m z z
 have h:=bif_f Ad h;refine rB k 22 z Ad fun k=>fl fa40_3 t136 m 0 Aa k z z fun a k=>sv k z (r_len (α:=Pair) Ao k underlying36 z z) fun a k=>pN 2 k z fun a k=>nn (cI h k z (fun Ax h=>?_) fun Ax h=>?_)
 · refine wr (pN 1 k z fun a k=>?_);have k:=k.keep [2] z;refine nn (wp_ret (rt_then ?_));refine fS h k m z z
 refine wp_skip (nm_then ?_);exact ⟨k.keep [1] z,m.sl [0] z,h⟩
theorem c_impl_namesOk_1 (fu:Nat) {w0:World} (q1:Typ) (x2:Typ) {b3:Nat} (Aa:bx w0 b3 [I x2.fId,I x2.fW,I x2.fH,I x2.fD,I x2.fTare,I x2.fGram,I x2.fCost] 58) {r:Bool}
    (h:d_impl_namesOk_1 fu q1 x2 = some r) :
    Calls Tryz.prog 92 #[.agg (Flat.e (q1)).toArray,pt b3] w0 fun e w=>e = .returned (.bool (r)) ∧ Ext [] w0 w:=by
 refine en (vs:=[_,_]) func92 z ntmps92 z fun a k m=>?_;unfold d_impl_namesOk_1 at h;refine wr (s_box (cs:=[I q1.fId,I q1.fW,I q1.fH,I q1.fD,I q1.fTare,I q1.fGram,I q1.fCost]) m k z z z z z z fun b5 w7 a k m e Ab=>pN 1 k z fun a k=>nn (wr (fl fa58_0 t13 m 0 Ab k z z fun a k=>sv k z (r_fa fa58_0 k z z) fun a k=>sv k z (r_ld1 t13 (r:=[]) (Aa.at (m.a00 Aa.lt1) 0 1 z z z) k z z) fun a k=>pN 2 k z fun a k=>nn (wp_ret (fS h k m z z)))))
theorem c_impl_namesOk_2 (fu:Nat) {w0:World} (q1:Item) (x2:Item) {b3:Nat} (Aa:bx w0 b3 [I x2.fId,I x2.fW,I x2.fH,I x2.fD,I x2.fGram,I x2.fClass,I x2.fCount] 83) {r:Bool}
    (h:d_impl_namesOk_2 fu q1 x2 = some r) :
    Calls Tryz.prog 93 #[.agg (Flat.e (q1)).toArray,pt b3] w0 fun e w=>e = .returned (.bool (r)) ∧ Ext [] w0 w:=by
 refine en (vs:=[_,_]) func93 z ntmps93 z fun a k m=>?_;unfold d_impl_namesOk_2 at h;refine wr (s_box (cs:=[I q1.fId,I q1.fW,I q1.fH,I q1.fD,I q1.fGram,I q1.fClass,I q1.fCount]) m k z z z z z z fun b5 w7 a k m e Ab=>pN 1 k z fun a k=>nn (wr (fl fa83_0 t13 m 0 Ab k z z fun a k=>sv k z (r_fa fa83_0 k z z) fun a k=>sv k z (r_ld1 t13 (r:=[]) (Aa.at (m.a00 Aa.lt1) 0 1 z z z) k z z) fun a k=>pN 2 k z fun a k=>nn (wp_ret (fS h k m z z)))))
theorem c_slices_IndexFunc_impl_Item_impl_Item (fu:Nat) {w0:World} (Ab:List Item) (f5:Item → Option Bool) {v2:Value} {F3:List Nat} (Ac:rd w0 F3 [v2] Ab) {v6:Value} (Aj:FnOk1 Tryz.prog w0 v6 f5) {r:Int}
    (h:d_slices_IndexFunc_impl_Item_impl_Item fu Ab f5 = some r) :
    Calls Tryz.prog 96 #[v2,v6] w0 fun e w=>e = .returned (I r) ∧ Ext [] w0 w:=by
 refine en (vs:=[_,_]) func96 z ntmps96 z fun a k m=>?_;obtain ⟨Al,Ak,rfl,Ae,Ag⟩:=Aj;unfold d_slices_IndexFunc_impl_Item_impl_Item at h;refine wr (pN 1 k z fun a k=>nn (wp_seq (wr (pN 1 k z fun a k=>sv k z (r_len (α:=Item) Ac k underlying38 z z) fun a k=>pN 1 k z fun a k=>nn (wp_block (c_loop (fun n a w=>∃ (Aa:Int),K 19 [(0,v2),(1,(.func (.func Al) #[] Ak.toArray)),(7,I ((Ab.length:Int))),(8,I Aa)] a ∧ St [] w0 w [] ∧ d_slices_IndexFunc_impl_Item_impl_Item_L1 fu Ab f5 n Aa = some r) ?_ ?_ fu _ _ ?_))))))
 · rintro a w ⟨_,_,_,h⟩;exact nS h
 · rintro Ao a Aq ⟨Aa,k,m,h⟩;rw [d_slices_IndexFunc_impl_Item_impl_Item_L1.eq_2] at h;unfold d_slices_IndexFunc_impl_Item_impl_Item_L1_B at h;refine wr (pN 1 k z fun a k=>nn (wp_seq (cI h k z (fun Ah h=>?_) fun Ah h=>?_)))
   · refine wp_skip (nm_then ?_);refine wp_seq (wp_block (wr (pN 2 k z fun a k=>nn (wr (pN 3 k z fun a k=>oE h fun Ap Ad h=>sv k z (r_ixa Ac Ad k ts38 z z z) fun a k=>sv k z (r_lde Ac (m.a00 (Enc.rd_lt Ac)) Ad ta83 k z z) fun a k=>oE h fun As Ai h=>s_callv k Ae z z z z z z (Ag _ _ _ _ m.ext z Ai) fun Am Ar hR=>?_)))));obtain ⟨rfl,e⟩:=hR;refine ⟨_,z,fun a k=>?_⟩;have m:=m.step e;refine nn (cI h k z (fun Af h=>?_) fun Af h=>?_)
     · refine wr (pN 2 k z fun a k=>nn (wp_ret (rt_block (rt_then (rt_then (rt_block (rt_then ?_)))))));refine fS h k m z z
     refine wp_skip (nm_block (nm_then ?_));refine wp_region_lit (pN 2 k z fun a k=>nn ?_);exact ⟨w64 (Aa + 1),k.keep [0,1,7,8] z,m.sl [] z,h⟩
   refine wp_exit (ex_then (ex_then (ex_same (nm_then ?_))));refine wr (pN 1 k z fun a k=>nn (wp_ret (fS h k m z z)))
 exact ⟨0,k.keep [0,1,7,8] z,m.sl [] z,h⟩
theorem c_slices_ContainsFunc_impl_Item_impl_Item (fu:Nat) {w0:World} (Aa:List Item) (f5:Item → Option Bool) {v2:Value} {F3:List Nat} (Ab:rd w0 F3 [v2] Aa) {v6:Value} (Ae:FnOk1 Tryz.prog w0 v6 f5) {r:Bool}
    (h:d_slices_ContainsFunc_impl_Item_impl_Item fu Aa f5 = some r) :
    Calls Tryz.prog 78 #[v2,v6] w0 fun e w=>e = .returned (.bool (r)) ∧ Ext [] w0 w:=by
 refine en (vs:=[_,_]) func78 z ntmps78 z fun a k m=>?_;obtain ⟨Al,Ak,rfl,Ah,Ac⟩:=Ae;unfold d_slices_ContainsFunc_impl_Item_impl_Item at h;refine wr (pN 1 k z fun a k=>nn (wr (pN 2 k z fun a k=>oE h fun Ai Ag h=>cC k m call96 z (c_slices_IndexFunc_impl_Item_impl_Item fu _ _ (m.r Ab) ⟨_,_,z,Ah,fun w Af Ad r e=>Ac w Af Ad r (m.ext.trans e (by simp))⟩ Ag) fun Aj e a k m=>pN 2 k z fun a k=>nn (wp_ret (fS h k m z z)))))
theorem c_impl_namesOk_3 (fu:Nat) {w0:World} (p1:Pair) (x2:Request) {v5:Value} {F6:List Nat} {v8:Value} {F9:List Nat} {Ad:Value} {Ae:List Nat} {b3:Nat} (Ab:bx w0 b3 (cR x2 v5 v8 Ad) 40) (Ah:rd w0 F6 [v5] x2.fPairs) (Ag:rd w0 F9 [v8] x2.fTypes) (Ai:rd w0 Ae [Ad] x2.fItems) {r:Bool}
    (h:d_impl_namesOk_3 fu p1 x2 = some r) :
    Calls Tryz.prog 94 #[.agg (Flat.e (p1)).toArray,pt b3] w0 fun e w=>e = .returned (.bool (r)) ∧ Ext [] w0 w:=by
 refine en (vs:=[_,_]) func94 z ntmps94 z fun a k m=>?_;unfold d_impl_namesOk_3 at h;refine wr (s_box (cs:=[I p1.fA,I p1.fB]) m k z z z z z z fun Aj Af a k m e Ac=>pN 1 k z fun a k=>nn (wr (fl fa88_0 t13 m 0 Ac k z z fun a k=>sv k z (r_fa fa40_2 k z z) fun a k=>sv k z (r_ld1 t13 (r:=[]) (Ab.at (m.a00 Ab.lt1) 5 1 z z z) k z z) fun a k=>pN 2 k z fun a k=>bsplit (decide (p1.fA ≥ x2.fClasses)) (fun Aa=>?_) (fun Aa=>?_))))
 · have h:=bif_t Aa h;refine rB k 9 z Aa fun k=>pN 7 k z fun a k=>nn (wp_ret (fS h k m z z))
 have h:=bif_f Aa h;refine rB k 9 z Aa fun k=>fl fa88_1 t13 m 0 Ac k z z fun a k=>sv k z (r_fa fa40_2 k z z) fun a k=>sv k z (r_ld1 t13 (r:=[]) (Ab.at (m.a00 Ab.lt1) 5 1 z z z) k z z) fun a k=>pN 3 k z fun a k=>nn (wp_ret (fS h k m z z))
theorem c_impl_namesOk (fu:Nat) {w0:World} (r1:Request) {Ar:List Value} {F3:List Nat} (Bj:rd w0 F3 Ar r1) {r:Bool}
    (h:d_impl_namesOk fu r1 = some r) :
    Calls Tryz.prog 76 #[.agg Ar.toArray] w0 fun e w=>e = .returned (.bool (r)) ∧ Ext [] w0 w:=by
 refine en (vs:=[_]) func76 z ntmps76 z fun a k m=>?_;obtain ⟨v5,F6,v7,F8,v9,Ca,rfl,rfl,Ai,Aa,Ab⟩:=Bj;unfold d_impl_namesOk at h;refine wr (s_box (cs:=(cR r1 v5 v7 v9)) m k z z z z z z fun Ag Am a k m e Ac=>pN 1 k z fun a k=>nn (wp_seq (wr (fl fa40_4 t137 m 0 Ac k z z fun a k=>sv k z (r_len (α:=Typ) Aa k underlying37 z z) fun a k=>pN 1 k z fun a k=>nn (wp_block (c_loop (fun n a w=>∃ (Al:Int),K 59 [(1,pt Ag),(10,v7),(11,I ((r1.fTypes.length:Int))),(12,I Al)] a ∧ St [] w0 w [([Ag],Am)] ∧ d_impl_namesOk_L2 fu r1 n Al = some r) ?_ ?_ fu _ _ ?_))))))
 · rintro a w ⟨_,_,_,h⟩;exact nS h
 · rintro Bx a Cm ⟨Al,k,m,h⟩;rw [d_impl_namesOk_L2.eq_2] at h;unfold d_impl_namesOk_L2_B at h;refine wr (pN 1 k z fun a k=>nn (wp_seq (cI h k z (fun Ay h=>?_) fun Ay h=>?_)))
   · refine wp_skip (nm_then ?_);refine wp_seq (wp_block (wr (pN 1 k z fun a k=>oE h fun Af At h=>sv k z (r_ixa Aa At k ts37 z z z) fun a k=>sv k z (r_lde Aa (m.a00 (Enc.rd_lt Aa)) At ta58 k z z) fun a k=>s_alloc (cs:=[I 0,I 0,I 0,I 0,I 0,I 0,I 0]) m k zeroValue58 z z z z z fun Bh Bp a k m e Bf=>pN 1 k z fun a k=>sT (cs':=[I Af.fId,I Af.fW,I Af.fH,I Af.fD,I Af.fTare,I Af.fGram,I Af.fCost]) sizeOf58 m 0 Bf 0 k z z fun Cp a k e m Bg=>nn (wr (fl fa40_4 t137 m 1 Ac k z z fun a k=>pN 1 k z fun a k=>oE h fun Ci Bi h=>?_)))));refine s_slTo Aa Bi k ts37 z z z z z z fun Cr a k Ap=>pN 1 k z fun a k=>oE h fun Bq Av h=>cC k m call81 z (c_slices_ContainsFunc_impl_Type_impl_Type fu _ _ (m.r Ap) ⟨92,[pt Bh],z,call92,fun w Cl Cs r e Az hx=>by subst Az; have m:=m.step e; exact c_impl_namesOk_1 fu _ _ (Bg.agr (m.a 0 rfl) (by simp)) hx⟩ Av) fun Bv e a k m=>nn (cI h k rfl (fun Bn h=>?_) fun Bn h=>?_)
     · refine wr (pN 1 k z fun a k=>nn (wp_ret (rt_block (rt_then (rt_then (rt_block (rt_then ?_)))))));refine fS h k m z z
     refine wp_skip (nm_block (nm_then ?_));refine wp_region_lit (pN 2 k z fun a k=>nn ?_);exact ⟨w64 (Al + 1),k.keep [1,10,11,12] z,m.sl [1] z,h⟩
   refine wp_exit (ex_then (ex_then (ex_same (nm_then ?_))));refine wp_seq (wr (fl fa40_6 t138 m 0 Ac k z z fun a k=>sv k z (r_len (α:=Item) Ab k underlying38 z z) fun a k=>pN 1 k z fun a k=>nn (wp_block (c_loop (fun n a w=>∃ (Ah:Int),K 59 [(1,pt Ag),(25,v9),(26,I ((r1.fItems.length:Int))),(27,I Ah)] a ∧ St [] w0 w [([Ag],Am)] ∧ d_impl_namesOk_L1 fu r1 n Ah = some r) ?_ ?_ fu _ _ ?_))))
   · rintro a w ⟨_,_,_,h⟩;exact nS h
   · rintro Au a Ce ⟨Ah,k,m,h⟩;rw [d_impl_namesOk_L1.eq_2] at h;unfold d_impl_namesOk_L1_B at h;refine wr (pN 1 k z fun a k=>nn (wp_seq (cI h k z (fun Aw h=>?_) fun Aw h=>?_)))
     · refine wp_skip (nm_then ?_);refine c_cut (fun a w=>K 59 [(1,pt Ag),(25,v9),(26,I ((r1.fItems.length:Int))),(27,I Ah)] a ∧ St [] w0 w [([Ag],Am)] ∧ d_impl_namesOk_J1 fu (d_impl_namesOk_L1 fu r1 Au) Ah = some r) ?_ ?_
       · rintro a Cq ⟨k,m,h⟩;unfold d_impl_namesOk_J1 at h;refine wp_region_lit (pN 2 k z fun a k=>nn ?_);exact ⟨w64 (Ah + 1),k.keep [1,25,26,27] z,m.sl [0] z,h⟩
       refine wp_block (wr (pN 1 k z fun a k=>oE h fun Ae Ao h=>sv k z (r_ixa Ab Ao k ts38 z z z) fun a k=>sv k z (r_lde Ab (m.a00 (Enc.rd_lt Ab)) Ao ta83 k z z) fun a k=>s_alloc (cs:=[I 0,I 0,I 0,I 0,I 0,I 0,I 0]) m k zeroValue83 z z z z z fun Bb Ck a k m e Bk=>pN 1 k z fun a k=>sT (cs':=[I Ae.fId,I Ae.fW,I Ae.fH,I Ae.fD,I Ae.fGram,I Ae.fClass,I Ae.fCount]) sizeOf83 m 0 Bk 0 k z z fun Cg a k e m Aq=>nn (wr (fl fa83_5 t13 m 0 Aq k z z fun a k=>sv k z (r_fa fa40_2 k z z) fun a k=>?_))));refine sv k z (r_ldb t13 m 1 Ac 5 k z z z z z) fun a k=>pN 2 k z fun a k=>bsplit (decide (Ae.fClass ≥ r1.fClasses)) (fun Aj=>?_) (fun Aj=>?_)
       · have h:=bif_t Aj h;refine rB k 37 z Aj fun k=>pN 7 k z fun a k=>nn (wp_cond_true (k.ev z) (wr (pN 1 k z fun a k=>nn (wp_ret (rt_block (rt_then (rt_then (rt_block (rt_then ?_)))))))));refine fS h k m z z
       have h:=bif_f Aj h;refine rB k 37 z Aj fun k=>fl fa40_6 t138 m 1 Ac k z z fun a k=>pN 1 k z fun a k=>oE h fun By Bd h=>s_slTo Ab Bd k ts38 z z z z z z fun Cj a k As=>pN 1 k z fun a k=>oE h fun Cb Be h=>cC k m call78 z (c_slices_ContainsFunc_impl_Item_impl_Item fu _ _ (m.r As) ⟨93,[pt Bb],z,call93,fun w Co Br r e Bl hx=>by subst Bl; have m:=m.step e; exact c_impl_namesOk_2 fu _ _ (Aq.agr (m.a 0 rfl) (by simp)) hx⟩ Be) fun Bz e a k m=>pN 1 k rfl fun a k=>nn (cI h k rfl (fun Bc h=>?_) fun Bc h=>?_)
       · refine wr (pN 1 k z fun a k=>nn (wp_ret (rt_block (rt_then (rt_then (rt_block (rt_then ?_)))))));refine fS h k m z z
       refine wp_skip (nm_block (nm_then ?_));exact ⟨k.keep [1,25,26,27] z,m.sl [1] z,h⟩
     refine wp_exit (ex_then (ex_then (ex_same (nm_then ?_))));refine wr (sv k z (rL ta40 m 0 Ac 0 k z) fun a k=>oE h fun Ad Bm h=>cC k m call74 z (c_impl_MasterOf fu _ (mkRequest (m.r Ai) (m.r Aa) (m.r Ab)) Bm) fun Bs e a k m=>pN 3 k z fun a k=>s_alloc (cs:=[I 0,I 0,I 0,I 0,I 0,I 0,I 0]) m k zeroValue58 z z z z z fun Ct Bw a k m e Bo=>?_);refine sT (cs':=[I Ad.1.fId,I Ad.1.fW,I Ad.1.fH,I Ad.1.fD,I Ad.1.fTare,I Ad.1.fGram,I Ad.1.fCost]) sizeOf58 m 0 Bo 0 k z z fun Cn a k e m Ch=>pN 1 k z fun a k=>nn (wr (pN 2 k z fun a k=>bsplit (Ad.2) (fun Ak=>?_) (fun Ak=>?_)))
     · have h:=bif_t Ak h;refine rB k 52 z Ak fun k=>fl fa40_3 t136 m 1 Ac k z z fun a k=>pN 1 k z fun a k=>oE h fun Bt Ax h=>cC k m call87 z (c_slices_ContainsFunc_impl_Pair_impl_Pair fu _ _ (m.r Ai) ⟨94,[pt Ag],z,call94,fun w Cc Cd r e Ba hx=>by subst Ba; have m:=m.step e; exact c_impl_namesOk_3 fu _ _ (Ac.agr (m.a 1 rfl) (by simp)) (m.r Ai) (m.r Aa) (m.r Ab) hx⟩ Ax) fun Bu e a k m=>pN 3 k rfl fun a k=>nn (wp_ret (fS h k m rfl rfl))
     have h:=bif_f Ak h;refine rB k 52 z Ak fun k=>pN 7 k z fun a k=>nn (wp_ret (fS h k m z z))
   exact ⟨0,k.keep [1,25,26,27] z,m.sl [0] z,h⟩
 exact ⟨0,k.keep [1,10,11,12] z,m.sl [0] z,h⟩
theorem c_slices_Index_impl_Pair_impl_Pair (fu:Nat) {w0:World} (Ab:List Pair) (v5:Pair) {v2:Value} {F3:List Nat} (Ac:rd w0 F3 [v2] Ab) {r:Int}
    (h:d_slices_Index_impl_Pair_impl_Pair fu Ab v5 = some r) :
    Calls Tryz.prog 107 #[v2,.agg (Flat.e (v5)).toArray] w0 fun e w=>e = .returned (I r) ∧ Ext [] w0 w:=by
 refine en (vs:=[_,_]) func107 z ntmps107 z fun a k m=>?_;unfold d_slices_Index_impl_Pair_impl_Pair at h;refine wr (s_box (cs:=[I v5.fA,I v5.fB]) m k z z z z z z fun b6 w9 a k m e Ae=>pN 1 k z fun a k=>nn (wp_seq (wr (pN 1 k z fun a k=>sv k z (r_len (α:=Pair) Ac k underlying36 z z) fun a k=>pN 1 k z fun a k=>nn (wp_block (c_loop (fun n a w=>∃ (Aa:Int),K 19 [(0,v2),(3,pt b6),(7,I ((Ab.length:Int))),(8,I Aa)] a ∧ St [] w0 w [([b6],w9)] ∧ d_slices_Index_impl_Pair_impl_Pair_L1 fu Ab v5 n Aa = some r) ?_ ?_ fu _ _ ?_))))))
 · rintro a w ⟨_,_,_,h⟩;exact nS h
 · rintro Ak a Aj ⟨Aa,k,m,h⟩;rw [d_slices_Index_impl_Pair_impl_Pair_L1.eq_2] at h;unfold d_slices_Index_impl_Pair_impl_Pair_L1_B at h;refine wr (pN 1 k z fun a k=>nn (wp_seq (cI h k z (fun Af h=>?_) fun Af h=>?_)))
   · refine wp_skip (nm_then ?_);refine wp_seq (wp_block (wr (pN 2 k z fun a k=>nn (wp_seq (d_go [] mixo m z fun Ag hMd=>?_)))));have m:=hMd;have s:=Ext.refl ([]:List Nat) Ag;refine dM [1,2] 2 z k z s fun a k=>dT k 0 z z s (fun w s=>r_ldA ta88 (Ae.at ((hMd.step s).a 0 z) 0 2 z z z) z k z z) fun a k=>oE h fun Ai Ad h=>dT k 3 z z s (fun w s=>r_ixa Ac Ad k ts36 z z z) fun a k=>dT k 4 z z s (fun w s=>r_lde Ac ((hMd.step s).a00 (Enc.rd_lt Ac)) Ad ta88 k z z) fun a k=>dT k 5 z z s (fun w s=>r_eqs seq88 (x:=v5) (y:=Ai) k z z z z z) fun a k=>dD ((nm_then ?_));refine cI h k z (fun Ah h=>?_) fun Ah h=>?_
     · refine wr (pN 2 k z fun a k=>nn (wp_ret (rt_block (rt_then (rt_then (rt_block (rt_then ?_)))))));refine fS h k m z z
     refine wp_skip (nm_block (nm_then ?_));refine wp_region_lit (pN 2 k z fun a k=>nn ?_);exact ⟨w64 (Aa + 1),k.keep [0,3,7,8] z,m.sl [0] z,h⟩
   refine wp_exit (ex_then (ex_then (ex_same (nm_then ?_))));refine wr (pN 1 k z fun a k=>nn (wp_ret (fS h k m z z)))
 exact ⟨0,k.keep [0,3,7,8] z,m.sl [0] z,h⟩
theorem c_slices_Contains_impl_Pair_impl_Pair (fu:Nat) {w0:World} (Aa:List Pair) (v5:Pair) {v2:Value} {F3:List Nat} (Ab:rd w0 F3 [v2] Aa) {r:Bool}
    (h:d_slices_Contains_impl_Pair_impl_Pair fu Aa v5 = some r) :
    Calls Tryz.prog 104 #[v2,.agg (Flat.e (v5)).toArray] w0 fun e w=>e = .returned (.bool (r)) ∧ Ext [] w0 w:=by
 refine en (vs:=[_,_]) func104 z ntmps104 z fun a k m=>?_;unfold d_slices_Contains_impl_Pair_impl_Pair at h;refine wr (s_box (cs:=[I v5.fA,I v5.fB]) m k z z z z z z fun b6 w9 a k m e Ac=>pN 1 k z fun a k=>nn (wr (pN 1 k z fun a k=>sv k z (rL ta88 m 0 Ac 0 k z) fun a k=>oE h fun Ae Ad h=>cC k m call107 z (c_slices_Index_impl_Pair_impl_Pair fu _ (v5:Pair) (m.r Ab) Ad) fun Af e a k m=>pN 2 k z fun a k=>nn (wp_ret (fS h k m z z)))))
theorem c_impl_Beside (fu:Nat) {w0:World} (Aa:List Pair) (a5:Int) (b6:Int) {v2:Value} {F3:List Nat} (Ab:rd w0 F3 [v2] Aa) {r:Bool}
    (h:d_impl_Beside fu Aa a5 b6 = some r) :
    Calls Tryz.prog 95 #[v2,I a5,I b6] w0 fun e w=>e = .returned (.bool (r)) ∧ Ext [] w0 w:=by
 refine en (vs:=[_,_,_]) func95 z ntmps95 z fun a k m=>?_;unfold d_impl_Beside at h;refine wr (pN 1 k z fun a k=>nn (wr (pN 3 k z fun a k=>sv k z (r_build bt88 k (cs:=#[I a5,I b6]) (ps:=[(0,.tmp 8),(1,.tmp 9)]) z z (by kernel_rfl)) fun a k=>oE h fun x7 Ac h=>cC k m call104 z (c_slices_Contains_impl_Pair_impl_Pair fu _ (((⟨a5,b6⟩:Pair)):Pair) (m.r Ab) Ac) fun Ad e a k m=>pN 1 k z fun a k=>nn (wp_ret (fS h k m z z)))))
theorem c_impl_TableOk (fu:Nat) {w0:World} (Ad:List Pair) (Aa:Int) {v2:Value} {F3:List Nat} (Ac:rd w0 F3 [v2] Ad) {r:Bool}
    (h:d_impl_TableOk fu Ad Aa = some r) :
    Calls Tryz.prog 77 #[v2,I Aa] w0 fun e w=>e = .returned (.bool (r)) ∧ Ext [] w0 w:=by
 refine en (vs:=[_,_]) func77 z ntmps77 z fun a k m=>?_;unfold d_impl_TableOk at h;refine wr (pN 1 k z fun a k=>nn (wp_seq (wr (pN 1 k z fun a k=>oE h fun x6 Ak h=>cC k m call62 z (c_impl_in fu _ _ _  Ak) fun w9 e a k m=>pN 1 k z fun a k=>nn (cI h k z (fun Am h=>?_) fun Am h=>?_)))))
 · refine wr (pN 1 k z fun a k=>nn (wp_ret (rt_then ?_)));refine fS h k m z z
 refine wp_skip (nm_then ?_);refine wp_seq (wr (pN 2 k z fun a k=>nn (wp_block (c_loop (fun n a w=>∃ (Ab:Int),K 34 [(0,v2),(1,I Aa),(10,I Aa),(11,I Ab)] a ∧ St [] w0 w [] ∧ d_impl_TableOk_L2 fu Ad Aa n Ab = some r) ?_ ?_ fu _ _ ?_))))
 · rintro a w ⟨_,_,_,h⟩;exact nS h
 · rintro Ah a Av ⟨Ab,k,m,h⟩;rw [d_impl_TableOk_L2.eq_2] at h;unfold d_impl_TableOk_L2_B at h;refine wr (pN 1 k z fun a k=>nn (wp_seq (cI h k z (fun Aj h=>?_) fun Aj h=>?_)))
   · refine wp_skip (nm_then ?_);refine wp_seq (wp_block (wr (pN 2 k z fun a k=>nn (wp_seq (wr (pN 3 k z fun a k=>oE h fun Au Al h=>cC k m call95 z (c_impl_Beside fu _ _ _ (m.r Ac) Al) fun At e a k m=>pN 1 k z fun a k=>nn (cI h k z (fun Ai h=>?_) fun Ai h=>?_)))))))
     · refine wr (pN 1 k z fun a k=>nn (wp_ret (rt_then (rt_block (rt_then (rt_then (rt_block (rt_then ?_))))))));refine fS h k m z z
     refine wp_skip (nm_then ?_);refine wr (pN 2 k z fun a k=>nn (wp_block (c_loop (fun n a w=>∃ (Ae:Int),K 34 [(0,v2),(1,I Aa),(5,I Ab),(10,I Aa),(11,I Ab),(19,I Aa),(20,I Ae)] a ∧ St [] w0 w [] ∧ d_impl_TableOk_L1 fu (d_impl_TableOk_L2 fu Ad Aa Ah) Ad Aa Ab n Ae = some r) ?_ ?_ fu _ _ ?_)))
     · rintro a w ⟨_,_,_,h⟩;exact nS h
     · rintro Aq a Ax ⟨Ae,k,m,h⟩;rw [d_impl_TableOk_L1.eq_2] at h;unfold d_impl_TableOk_L1_B at h;refine wr (pN 1 k z fun a k=>nn (wp_seq (cI h k z (fun Ao h=>?_) fun Ao h=>?_)))
       · refine wp_skip (nm_then ?_);refine wp_seq (wp_block (wr (pN 2 k z fun a k=>nn (wr (pN 3 k z fun a k=>oE h fun Ar Ap h=>cC k m call95 z (c_impl_Beside fu _ _ _ (m.r Ac) Ap) fun Aw e a k m=>pN 3 k z fun a k=>oE h fun Ay Af h=>cC k m call95 z (c_impl_Beside fu _ _ _ (m.r Ac) Af) fun As e a k m=>sv k z (r_neb k underlying4 z z z) fun a k=>nn (cI h k z (fun Ag h=>?_) fun Ag h=>?_))))))
         · refine wr (pN 1 k z fun a k=>nn (wp_ret (rt_block (rt_then (rt_then (rt_block (rt_block (rt_then (rt_then (rt_block (rt_then ?_)))))))))));refine fS h k m z z
         refine wp_skip (nm_block (nm_then ?_));refine wp_region_lit (pN 2 k z fun a k=>nn ?_);exact ⟨w64 (Ae + 1),k.keep [0,1,5,10,11,19,20] z,m.sl [] z,h⟩
       refine wp_exit (ex_then (ex_then (ex_same (nm_block (nm_then ?_)))));refine wp_region_lit (pN 2 k z fun a k=>nn ?_);exact ⟨w64 (Ab + 1),k.keep [0,1,10,11] z,m.sl [] z,h⟩
     exact ⟨0,k.keep [0,1,5,10,11,19,20] z,m.sl [] z,h⟩
   refine wp_exit (ex_then (ex_then (ex_same (nm_then ?_))));refine wr (pN 1 k z fun a k=>nn (wp_ret (fS h k m z z)))
 exact ⟨0,k.keep [0,1,10,11] z,m.sl [] z,h⟩
theorem c_slices_Sort_int_int (fu:Nat) {w0:World} (x1:List Int) {v2:Value} {F3:List Nat} (Aa:ow w0 F3 [v2] x1) {r:List Int}
    (h:d_slices_Sort_int_int fu x1 = some r) :
    Calls Tryz.prog 97 #[v2] w0 fun e w=>∃ H:List Nat,e = .returned (.tuple #[]) ∧ Ext F3 w0 w ∧ (∀ b ∈ H,b ∈ F3 ∨ w0.heap.size ≤ b) ∧ ow w H [v2] r :=
  (c_sortInt (fun blk off cap zs w=>Tryz.slices_Sort_int blk off cap zs w) (fun p cap w=>Tryz.slices_Sort_int_none p cap w) x1 Aa h).mono fun e w ⟨h1,h2,h3⟩=>⟨_,h1,h2,fun b hb=>.inl hb,h3⟩

theorem c_impl_Fits (fu:Nat) {w0:World} (x1:Item) (t2:Typ)  {r:Bool}
    (h:d_impl_Fits fu x1 t2 = some r) :
    Calls Tryz.prog 80 #[.agg (Flat.e (x1)).toArray,.agg (Flat.e (t2)).toArray] w0 fun e w=>e = .returned (.bool (r)) ∧ Ext [] w0 w:=by
 refine en (vs:=[_,_]) func80 z ntmps80 z fun a k m=>?_;unfold d_impl_Fits at h;refine wr (s_box (cs:=[I x1.fId,I x1.fW,I x1.fH,I x1.fD,I x1.fGram,I x1.fClass,I x1.fCount]) m k z z z z z z fun b3 w5 a k m e Af=>s_box (cs:=[I t2.fId,I t2.fW,I t2.fH,I t2.fD,I t2.fTare,I t2.fGram,I t2.fCost]) m k z z z z z z fun b6 w9 a k m e Ag=>pN 1 k z fun a k=>nn ?_);refine c_cut (fun a w=>∃ (Ai:List Int) (Ah:Value) (Al:List Nat) (Aj:World) (Ak:List Int) (Ap:Value) (Am:List Nat) (Ao:World),K 57 [(2,pt b3),(3,pt b6),(5,Ah),(6,Ap)] a ∧ St [] w0 w [([b3],w5),([b6],w9),(Al,Aj),(Am,Ao)] ∧ ow Aj Al [Ah] Ai ∧ ow Ao Am [Ap] Ak ∧ d_impl_Fits_J1 fu x1 t2 Ai Ak = some r) ?_ ?_
 · rintro a Cs ⟨Ai,Ah,Al,Aj,Ak,Ap,Am,Ao,k,m,Ba,Bl,h⟩;unfold d_impl_Fits_J1 at h;refine wr (pN 1 k z fun a k=>oE h fun Ct Bw h=>sC k call97 z (c_slices_Sort_int_int fu _ (m.v Ba 2 z) Bw) fun Ck Cv hR=>?_);obtain ⟨Ci,rfl,e,Bf,Ab⟩:=hR;refine ⟨_,z,fun a k=>?_⟩;have m:=m.mut 2 z e _ (fun b hb=>⟨Bf b hb,Enc.rd_lt (Enc.ow_rd Ab) b hb⟩) (Enc.ow_nd Ab);refine nn (wr (pN 1 k z fun a k=>oE h fun Cu Cd h=>sC k call97 z (c_slices_Sort_int_int fu _ (m.v Bl 3 z) Cd) fun Ce Cj hR=>?_));obtain ⟨Ch,rfl,e,Bk,Aa⟩:=hR;refine ⟨_,z,fun a k=>?_⟩;have m:=m.mut 3 z e _ (fun b hb=>⟨Bk b hb,Enc.rd_lt (Enc.ow_rd Aa) b hb⟩) (Enc.ow_nd Aa);refine nn (wp_seq (d_go [] mixo m z fun Cb hMd=>?_));have m:=hMd;have s:=Ext.refl ([]:List Nat) Cb
   refine dM [0,3] 2 z k z s fun a k=>oE h fun Bj Av h=>dT k 1 z z s (fun w s=>r_ixa (Enc.ow_rd Ab) Av k ts29 z z z) fun a k=>dT k 2 z z s (fun w s=>r_lde1 (Enc.ow_rd Ab) ((hMd.step s).a 2 z) Av 0 t13 k z z z z) fun a k=>oE h fun Bu As h=>dT k 4 z z s (fun w s=>r_ixa (Enc.ow_rd Aa) As k ts29 z z z) fun a k=>dT k 5 z z s (fun w s=>r_lde1 (Enc.ow_rd Aa) ((hMd.step s).a 3 z) As 0 t13 k z z z z) fun a k=>dM [6,7] 2 z k z s fun a k=>bsplit (decide (Bj ≤ Bu)) (fun Ae=>?_) (fun Ae=>?_)
   · have h:=bif_t Ae h;refine rB k 32 z Ae fun k=>dM [8,11] 2 z k z s fun a k=>oE h fun Bv Aq h=>dT k 9 z z s (fun w s=>r_ixa (Enc.ow_rd Ab) Aq k ts29 z z z) fun a k=>dT k 10 z z s (fun w s=>r_lde1 (Enc.ow_rd Ab) ((hMd.step s).a 2 z) Aq 0 t13 k z z z z) fun a k=>oE h fun Bs Ax h=>dT k 12 z z s (fun w s=>r_ixa (Enc.ow_rd Aa) Ax k ts29 z z z) fun a k=>dT k 13 z z s (fun w s=>r_lde1 (Enc.ow_rd Aa) ((hMd.step s).a 3 z) Ax 0 t13 k z z z z) fun a k=>dM [14,15,16] 3 z k z s fun a k=>bsplit (decide (Bv ≤ Bs)) (fun Ad=>?_) (fun Ad=>?_)
     · have h:=bif_t Ad h;refine rB k 41 z Ad fun k=>dM [17,20] 2 z k z s fun a k=>oE h fun Bp Ay h=>dT k 18 z z s (fun w s=>r_ixa (Enc.ow_rd Ab) Ay k ts29 z z z) fun a k=>dT k 19 z z s (fun w s=>r_lde1 (Enc.ow_rd Ab) ((hMd.step s).a 2 z) Ay 0 t13 k z z z z) fun a k=>oE h fun Bt Au h=>dT k 21 z z s (fun w s=>r_ixa (Enc.ow_rd Aa) Au k ts29 z z z) fun a k=>dT k 22 z z s (fun w s=>r_lde1 (Enc.ow_rd Aa) ((hMd.step s).a 3 z) Au 0 t13 k z z z z) fun a k=>dM [23,24,25] 3 z k z s fun a k=>bsplit (decide (Bp ≤ Bt)) (fun Ac=>?_) (fun Ac=>?_)
       · have h:=bif_t Ac h;refine rB k 50 z Ac fun k=>dF k 26 fa83_4 z s fun a k=>dT k 27 z z s (fun w s=>r_ld1 t13 (r:=[]) (Af.at ((hMd.step s).a 0 z) 4 1 z z z) k z z) fun a k=>dF k 28 fa58_5 z s fun a k=>dT k 29 z z s (fun w s=>r_ld1 t13 (r:=[]) (Ag.at ((hMd.step s).a 1 z) 5 1 z z z) k z z) fun a k=>dM [30,31,32] 3 z k z s fun a k=>dD ?_;have k:=k.keep [4] z;refine (nm_then ?_);refine wp_ret (fS h k m z z)
       have h:=bif_f Ac h;refine rB k 50 z Ac fun k=>dM [26,27,28,29,30,31,32] 7 z k z s fun a k=>dD ?_;have k:=k.keep [4] z;refine (nm_then ?_);refine wp_ret (fS h k m z z)
     have h:=bif_f Ad h;refine rB k 41 z Ad fun k=>dM [17,18,19,20,21,22,23,24,25,26,27,28,29,30,31,32] 16 z k z s fun a k=>dD ?_;have k:=k.keep [4] z;refine (nm_then ?_);refine wp_ret (fS h k m z z)
   have h:=bif_f Ae h;refine rB k 32 z Ae fun k=>dM [8,9,10,11,12,13,14,15,16,17,18,19,20,21,22,23,24,25,26,27,28,29,30,31,32] 25 z k z s fun a k=>dD ?_;have k:=k.keep [4] z;refine (nm_then ?_);refine wp_ret (fS h k m z z)
 refine d_go [] mixo m z fun Bb hMd=>?_;have m:=hMd;have s:=Ext.refl ([]:List Nat) Bb;refine dF k 0 fa83_1 z s fun a k=>dT k 1 z z s (fun w s=>r_ld1 t13 (r:=[]) (Af.at ((hMd.step s).a 1 z) 1 1 z z z) k z z) fun a k=>dF k 2 fa83_2 z s fun a k=>dT k 3 z z s (fun w s=>r_ld1 t13 (r:=[]) (Af.at ((hMd.step s).a 1 z) 2 1 z z z) k z z) fun a k=>dF k 4 fa83_3 z s fun a k=>dT k 5 z z s (fun w s=>r_ld1 t13 (r:=[]) (Af.at ((hMd.step s).a 1 z) 3 1 z z z) k z z) fun a k=>?_;refine dF k 7 fa58_1 z s fun a k=>dT k 8 z z s (fun w s=>r_ld1 t13 (r:=[]) (Ag.at ((hMd.step s).a 0 z) 1 1 z z z) k z z) fun a k=>dF k 9 fa58_2 z s fun a k=>dT k 10 z z s (fun w s=>r_ld1 t13 (r:=[]) (Ag.at ((hMd.step s).a 0 z) 2 1 z z z) k z z) fun a k=>dF k 11 fa58_3 z s fun a k=>dT k 12 z z s (fun w s=>r_ld1 t13 (r:=[]) (Ag.at ((hMd.step s).a 0 z) 3 1 z z z) k z z) fun a k=>d_two 6 13 (by kernel_rfl) z z ?_ ?_
 · refine s_bsN (cs:=[I x1.fW,I x1.fH,I x1.fD]) (ps:=[(0,.tmp 8),(1,.tmp 10),(2,.tmp 12)]) te29 m k z z z z z z z (by decide) z (by exact fC z (fC z (fC z fN))) fun Aw Bz Cg a k m e Ca Bm=>?_;have Cn:=lo1 (Nat.le_trans s.size Bm);have Bq:=ow_bx Ca ([x1.fW,x1.fH,x1.fD]:List Int) z z z;refine ns s e fun s=>?_;refine dM [14] 1 z k z s fun a k=>dO 13 z (s_bsN (cs:=[I t2.fW,I t2.fH,I t2.fD]) (ps:=[(0,.tmp 15),(1,.tmp 17),(2,.tmp 19)]) te29 m k z z z z z z z (by decide) z (by exact fC z (fC z (fC z fN))) fun Az Bx Cr a k m e Bn Bh=>?_);have Cl:=lo1 (Nat.le_trans s.size Bh);have Br:=ow_bx Bn ([t2.fW,t2.fH,t2.fD]:List Int) z z z;refine ns s e fun s=>?_;refine dM [15] 1 z k z s fun a k=>dD ((nm_then ?_));exact ⟨([x1.fW,x1.fH,x1.fD]:List Int),(.slice (some ⟨Aw,0,none⟩) 3 3),[Aw],Bz,([t2.fW,t2.fH,t2.fD]:List Int),(.slice (some ⟨Az,0,none⟩) 3 3),[Az],Bx,k.keep [2,3,5,6] z,m.sl [3,2,1,0] z,Bq,Br,h⟩
 refine s_bsN (cs:=[I t2.fW,I t2.fH,I t2.fD]) (ps:=[(0,.tmp 15),(1,.tmp 17),(2,.tmp 19)]) te29 m k z z z z z z z (by decide) z (by exact fC z (fC z (fC z fN))) fun At Be Cp a k m e Bg By=>?_;have Cq:=lo1 (Nat.le_trans s.size By);have Bi:=ow_bx Bg ([t2.fW,t2.fH,t2.fD]:List Int) z z z;refine ns s e fun s=>?_;refine dO 6 z (s_bsN (cs:=[I x1.fW,I x1.fH,I x1.fD]) (ps:=[(0,.tmp 8),(1,.tmp 10),(2,.tmp 12)]) te29 m k z z z z z z z (by decide) z (by exact fC z (fC z (fC z fN))) fun Ar Cc Co a k m e Bo Bc=>?_);have Cm:=lo1 (Nat.le_trans s.size Bc);have Bd:=ow_bx Bo ([x1.fW,x1.fH,x1.fD]:List Int) z z z;refine ns s e fun s=>?_;refine dM [14,15] 2 z k z s fun a k=>dD ((nm_then ?_));exact ⟨([x1.fW,x1.fH,x1.fD]:List Int),(.slice (some ⟨Ar,0,none⟩) 3 3),[Ar],Cc,([t2.fW,t2.fH,t2.fD]:List Int),(.slice (some ⟨At,0,none⟩) 3 3),[At],Be,k.keep [2,3,5,6] z,m.sl [3,2,0,1] z,Bd,Bi,h⟩
theorem c_impl_Class_1 (fu:Nat) {w0:World} (x1:Item) (x2:Typ) {b3:Nat} (Aa:bx w0 b3 [I x2.fId,I x2.fW,I x2.fH,I x2.fD,I x2.fTare,I x2.fGram,I x2.fCost] 58) {r:Bool}
    (h:d_impl_Class_1 fu x1 x2 = some r) :
    Calls Tryz.prog 79 #[.agg (Flat.e (x1)).toArray,pt b3] w0 fun e w=>e = .returned (.bool (r)) ∧ Ext [] w0 w:=by
 refine en (vs:=[_,_]) func79 z ntmps79 z fun a k m=>?_;unfold d_impl_Class_1 at h;refine wr (s_box (cs:=[I x1.fId,I x1.fW,I x1.fH,I x1.fD,I x1.fGram,I x1.fClass,I x1.fCount]) m k z z z z z z fun b5 w7 a k m e Ac=>pN 1 k z fun a k=>nn (wr (sv k z (rL ta83 m 0 Ac 0 k z) fun a k=>sv k z (r_ldA ta58 (Aa.at (m.a00 Aa.lt1) 0 7 z z z) z k z z) fun a k=>oE h fun x8 Ab h=>cC k m call80 z (c_impl_Fits fu (x1:Item) (x2:Typ)  Ab) fun Ad e a k m=>pN 2 k z fun a k=>nn (wp_ret (fS h k m z z)))))
theorem c_impl_Class_2 (fu:Nat) {w0:World} (t1:Typ) (x2:Pallet) {b3:Nat} (Aa:bx w0 b3 [I x2.fW,I x2.fD,I x2.fH,I x2.fGram] 35) {r:Bool}
    (h:d_impl_Class_2 fu t1 x2 = some r) :
    Calls Tryz.prog 82 #[.agg (Flat.e (t1)).toArray,pt b3] w0 fun e w=>e = .returned (.bool (r)) ∧ Ext [] w0 w:=by
 refine en (vs:=[_,_]) func82 z ntmps82 z fun a k m=>?_;unfold d_impl_Class_2 at h;refine wr (s_box (cs:=[I t1.fId,I t1.fW,I t1.fH,I t1.fD,I t1.fTare,I t1.fGram,I t1.fCost]) m k z z z z z z fun b5 w7 a k m e Ab=>pN 1 k z fun a k=>nn (wr (fl fa58_1 t13 m 0 Ab k z z fun a k=>sv k z (r_fa fa35_0 k z z) fun a k=>sv k z (r_ld1 t13 (r:=[]) (Aa.at (m.a00 Aa.lt1) 0 1 z z z) k z z) fun a k=>pN 2 k z fun a k=>bsplit (decide (t1.fW > x2.fW)) (fun Ac=>?_) (fun Ac=>?_))))
 · have h:=bif_t Ac h;refine rB k 9 z Ac fun k=>pN 24 k z fun a k=>?_;have k:=k.keep [3] z;refine nn (wp_ret (fS h k m z z))
 have h:=bif_f Ac h;refine rB k 9 z Ac fun k=>fl fa58_3 t13 m 0 Ab k z z fun a k=>sv k z (r_fa fa35_1 k z z) fun a k=>sv k z (r_ld1 t13 (r:=[]) (Aa.at (m.a00 Aa.lt1) 1 1 z z z) k z z) fun a k=>pN 3 k z fun a k=>bsplit (decide (t1.fD > x2.fD)) (fun Ad=>?_) (fun Ad=>?_)
 · have h:=bif_t Ad h;refine rB k 16 z Ad fun k=>pN 17 k z fun a k=>?_;have k:=k.keep [3] z;refine nn (wp_ret (fS h k m z z))
 have h:=bif_f Ad h;refine rB k 16 z Ad fun k=>fl fa58_2 t13 m 0 Ab k z z fun a k=>sv k z (r_fa fa35_2 k z z) fun a k=>sv k z (r_ld1 t13 (r:=[]) (Aa.at (m.a00 Aa.lt1) 2 1 z z z) k z z) fun a k=>pN 3 k z fun a k=>bsplit (decide (t1.fH > x2.fH)) (fun Ae=>?_) (fun Ae=>?_)
 · have h:=bif_t Ae h;refine rB k 23 z Ae fun k=>pN 10 k z fun a k=>?_;have k:=k.keep [3] z;refine nn (wp_ret (fS h k m z z))
 have h:=bif_f Ae h;refine rB k 23 z Ae fun k=>fl fa58_4 t13 m 0 Ab k z z fun a k=>fl fa58_5 t13 m 0 Ab k z z fun a k=>pN 1 k z fun a k=>sv k z (r_fa fa35_3 k z z) fun a k=>sv k z (r_ld1 t13 (r:=[]) (Aa.at (m.a00 Aa.lt1) 3 1 z z z) k z z) fun a k=>pN 3 k z fun a k=>?_;have k:=k.keep [3] z;refine nn (wp_ret (fS h k m z z))
theorem c_impl_Class (fu:Nat) {w0:World} (r1:Request) {Af:List Value} {F3:List Nat} (Aw:rd w0 F3 Af r1) {r:Int}
    (h:d_impl_Class fu r1 = some r) :
    Calls Tryz.prog 60 #[.agg Af.toArray] w0 fun e w=>e = .returned (I r) ∧ Ext [] w0 w:=by
 refine en (vs:=[_]) func60 z ntmps60 z fun a k m=>?_;obtain ⟨v5,F6,v7,F8,v9,Bi,rfl,rfl,Ad,Ab,Ac⟩:=Aw;unfold d_impl_Class at h;refine wr (s_box (cs:=(cR r1 v5 v7 v9)) m k z z z z z z fun Bm Bb a k m e Aa=>pN 1 k z fun a k=>nn (wr (sv k z (rL ta40 m 0 Aa 0 k z) fun a k=>oE h fun Ae Ar h=>cC k m call74 z (c_impl_MasterOf fu _ (mkRequest (m.r Ad) (m.r Ab) (m.r Ac)) Ar) fun Bc e a k m=>?_)));refine pN 3 k z fun a k=>s_alloc (cs:=[I 0,I 0,I 0,I 0,I 0,I 0,I 0]) m k zeroValue58 z z z z z fun Av Bu a k m e Ay=>sT (cs':=[I Ae.1.fId,I Ae.1.fW,I Ae.1.fH,I Ae.1.fD,I Ae.1.fTare,I Ae.1.fGram,I Ae.1.fCost]) sizeOf58 m 0 Ay 0 k z z fun Bt a k e m Az=>pN 1 k z fun a k=>nn (wr (sv k z (r_fa fa40_1 k z z) fun a k=>sv k z (rL ta35 m 1 Aa 1 k z) fun a k=>s_alloc (cs:=[I 0,I 0,I 0,I 0]) m k zeroValue35 z z z z z fun Aq Bw a k m e Ai=>?_))
 refine sT (cs':=[I r1.fPallet.fW,I r1.fPallet.fD,I r1.fPallet.fH,I r1.fPallet.fGram]) sizeOf35 m 0 Ai 0 k z z fun Bd a k e m Am=>nn (wp_seq (wp_block (wr (sv k z (rL ta40 m 2 Aa 0 k z) fun a k=>oE h fun Bh Aj h=>cC k m call75 z (c_impl_BoundsOk fu _ (mkRequest (m.r Ad) (m.r Ab) (m.r Ac)) Aj) fun Bo e a k m=>pN 2 k z fun a k=>nn ?_))));refine cI h k z (fun Au h=>?_) fun Au h=>?_
 · refine wr (pN 1 k z fun a k=>nn (wp_ret (rt_block (rt_then ?_))));refine fS h k m z z
 refine wr (sv k z (rL ta40 m 2 Aa 0 k z) fun a k=>oE h fun Be Ak h=>cC k m call76 z (c_impl_namesOk fu _ (mkRequest (m.r Ad) (m.r Ab) (m.r Ac)) Ak) fun Br e a k m=>pN 2 k z fun a k=>nn (cI h k z (fun Ao h=>?_) fun Ao h=>?_))
 · refine wr (pN 1 k z fun a k=>nn (wp_ret (rt_block (rt_then ?_))));refine fS h k m z z
 refine wr (fl fa40_3 t136 m 2 Aa k z z fun a k=>fl fa40_2 t13 m 2 Aa k z z fun a k=>oE h fun Bf Ah h=>cC k m call77 z (c_impl_TableOk fu _ _ (m.r Ad) Ah) fun Bp e a k m=>pN 2 k z fun a k=>?_);have k:=k.keep [1,3,5,21] z;refine nn (cI h k z (fun Al h=>?_) fun Al h=>?_)
 · refine wr (pN 1 k z fun a k=>nn (wp_ret (rt_block (rt_then ?_))));refine fS h k m z z
 refine wr (fl fa40_6 t138 m 2 Aa k z z fun a k=>pN 1 k z fun a k=>oE h fun Bj Ax h=>cC k m call78 z (c_slices_ContainsFunc_impl_Item_impl_Item fu _ _ (m.r Ac) ⟨79,[pt Av],z,call79,fun w Bg Bn r e Ap hx=>by subst Ap; have m:=m.step e; exact c_impl_Class_1 fu _ _ (Az.agr (m.a 1 rfl) (by simp)) hx⟩ Ax) fun Bq e a k m=>pN 1 k rfl fun a k=>nn (cI h k rfl (fun As h=>?_) fun As h=>?_))
 · refine wr (pN 1 k z fun a k=>nn (wp_ret (rt_block (rt_then ?_))));refine fS h k m z z
 refine wr (fl fa40_4 t137 m 2 Aa k z z fun a k=>pN 1 k z fun a k=>oE h fun Bs Ba h=>cC k m call81 z (c_slices_ContainsFunc_impl_Type_impl_Type fu _ _ (m.r Ab) ⟨82,[pt Aq],z,call82,fun w Bl Bv r e Ag hx=>by subst Ag; have m:=m.step e; exact c_impl_Class_2 fu _ _ (Am.agr (m.a 0 rfl) (by simp)) hx⟩ Ba) fun Bk e a k m=>pN 1 k rfl fun a k=>nn (cI h k rfl (fun At h=>?_) fun At h=>?_))
 · refine wr (pN 1 k z fun a k=>nn (wp_ret (rt_block (rt_then ?_))));refine fS h k m z z
 refine wp_skip (nm_block (nm_then ?_));refine wr (pN 1 k z fun a k=>nn (wp_ret (fS h k m z z)))
theorem c_impl_sound (fu:Nat) {w0:World} (r1:Request) {Ab:List Value} {F3:List Nat} (Af:rd w0 F3 Ab r1) {r:Bool}
    (h:d_impl_sound fu r1 = some r) :
    Calls Tryz.prog 33 #[.agg Ab.toArray] w0 fun e w=>e = .returned (.bool (r)) ∧ Ext [] w0 w:=by
 refine en (vs:=[_]) func33 z ntmps33 z fun a k m=>?_;obtain ⟨v5,F6,v7,F8,v9,Aj,rfl,rfl,Aa,Ac,Ad⟩:=Af;unfold d_impl_sound at h;refine wr (s_box (cs:=(cR r1 v5 v7 v9)) m k z z z z z z fun Al Ah a k m e Ae=>pN 1 k z fun a k=>nn (wr (sv k z (rL ta40 m 0 Ae 0 k z) fun a k=>oE h fun Ai Ag h=>cC k m call60 z (c_impl_Class fu _ (mkRequest (m.r Aa) (m.r Ac) (m.r Ad)) Ag) fun Ak e a k m=>?_)));refine pN 2 k z fun a k=>nn (wp_ret (fS h k m z z))
theorem c_bits_Mul64 (fu:Nat) {w0:World} (x1:Int) (y2:Int)  {r:Int × Int}
    (h:d_bits_Mul64 fu x1 y2 = some r) :
    Calls Tryz.prog 99 #[.int .u64 (x1),.int .u64 (y2)] w0 fun e w=>e = .returned (.tuple #[.int .u64 (r.1),.int .u64 (r.2)]) ∧ Ext [] w0 w:=by
 refine en (vs:=[_,_]) func99 z ntmps99 z fun a k m=>?_;unfold d_bits_Mul64 at h;refine wr (pN 2 k z fun a k=>nn (wr (pN 3 k z fun a k=>nn (wr (pN 1 k z fun a k=>sv k z (r_shr (y:=32) k z z z) fun a k=>pN 1 k z fun a k=>nn (wr (pN 3 k z fun a k=>nn (wr (pN 1 k z fun a k=>sv k z (r_shr (y:=32) k z z z) fun a k=>pN 1 k z fun a k=>nn (wr (pN 4 k z fun a k=>nn (wr (pN 4 k z fun a k=>sv k z (r_shr (y:=32) k z z z) fun a k=>pN 2 k z fun a k=>?_)))))))))))));have k:=k.keep [0,1,6,7,9,11] z;refine nn (wr (pN 3 k z fun a k=>nn (wr (pN 1 k z fun a k=>sv k z (r_shr (y:=32) k z z z) fun a k=>pN 1 k z fun a k=>nn (wr (pN 6 k z fun a k=>nn (wr (pN 6 k z fun a k=>sv k z (r_shr (y:=32) k z z z) fun a k=>pN 2 k z fun a k=>?_))))))));have k:=k.keep [0,1,4] z;refine nn (wr (pN 4 k z fun a k=>nn (wp_ret ?_)));cases h;exact finR2 k z (RV.tmp k z) (RV.tmp k z) ⟨z,m.ext⟩
theorem c_bits_Mul (fu:Nat) {w0:World} (x1:Int) (y2:Int)  {r:Int × Int}
    (h:d_bits_Mul fu x1 y2 = some r) :
    Calls Tryz.prog 83 #[.int .u64 (x1),.int .u64 (y2)] w0 fun e w=>e = .returned (.tuple #[.int .u64 (r.1),.int .u64 (r.2)]) ∧ Ext [] w0 w:=by
 refine en (vs:=[_,_]) func83 z ntmps83 z fun a k m=>?_;unfold d_bits_Mul at h;refine wr (pN 2 k z fun a k=>nn (wp_seq (wp_cond_false (k.ev z) (wp_skip (nm_then ?_)))));refine wr (pN 2 k z fun a k=>oE h fun x3 Aa h=>cC k m call99 z (c_bits_Mul64 fu _ _  Aa) fun w6 e a k m=>pN 5 k z fun a k=>nn (wr (pN 4 k z fun a k=>nn (wp_ret ?_))));cases h;exact finR2 k z (RV.tmp k z) (RV.tmp k z) ⟨z,m.ext⟩
theorem c_slices_Repeat_int_int (fu:Nat) {w0:World} (x1:List Int) (Af:Int) {v2:Value} {F3:List Nat} (Ai:rd w0 F3 [v2] x1) {r:(List Int)}
    (h:d_slices_Repeat_int_int fu x1 Af = some r) :
    Calls Tryz.prog 67 #[v2,I Af] w0 fun e w=>∃ (v0:Value) (G0:List Nat),e = .returned (v0) ∧ Ext [] w0 w ∧ ow w G0 [v0] r ∧ (∀ b ∈ G0,w0.heap.size ≤ b):=by
 refine en (vs:=[_,_]) func67 z ntmps67 z fun a k m=>?_;unfold d_slices_Repeat_int_int at h;refine wr (pN 1 k z fun a k=>nn (c_cut (fun a w=>K 48 [(0,v2),(1,I Af)] a ∧ St [] w0 w [] ∧ d_slices_Repeat_int_int_J2 fu x1 Af = some r) ?_ ?_))
 · rintro a w7 ⟨k,m,h⟩;unfold d_slices_Repeat_int_int_J2 at h;refine wr (pN 1 k z fun a k=>sv k z (r_len (α:=Int) Ai k underlying29 z z) fun a k=>sv k z (r_cv k underlying3 underlying109 z z) fun a k=>pN 1 k z fun a k=>sv k z (r_cv k underlying3 underlying109 z z) fun a k=>oE h fun x8 Am h=>cC k m call83 z (c_bits_Mul fu _ _  Am) fun Bg e a k m=>pN 5 k z fun a k=>nn (c_cut (fun a w=>K 48 [(0,v2),(6,.int .u64 (x8.2))] a ∧ St [] w0 w [] ∧ d_slices_Repeat_int_int_J1 fu x1 x8 = some r) ?_ ?_))
   · rintro a Bf ⟨k,m,h⟩;unfold d_slices_Repeat_int_int_J1 at h;refine wr (pN 1 k z fun a k=>sv k z (r_cv k underlying109 underlying3 z z) fun a k=>oE h fun Aj Bc h=>s_mk Bc te29 z z m k z z z z z z fun Av Bn a Aw k m e Al=>pN 1 k z fun a k=>nn (wr (pN 2 k z fun a k=>s_cp (lo:=0) te29 m 0 Al (Part.self _) (m.r Ai) k z z z z z z z fun At a k e m Ay=>pN 1 k z fun a k=>nn (wp_seq (wp_block (c_loop (fun n a w=>∃ (Ae:List Int) (Ag:Value) (Aa:List Nat) (Ah:World) (Ab:Int),K 48 [(7,Ag),(8,I Ab)] a ∧ St [] w0 w [(Aa,Ah)] ∧ ow Ah Aa [Ag] Ae ∧ d_slices_Repeat_int_int_L1 fu  n Ae Ab = some r) ?_ ?_ fu _ _ ?_))))))
     · rintro a w ⟨_,_,_,_,_,_,_,_,h⟩;exact nS h
     · rintro Bj a Bl ⟨Ae,Ag,Aa,Ah,Ab,k,m,Ac,h⟩;rw [d_slices_Repeat_int_int_L1.eq_2] at h;unfold d_slices_Repeat_int_int_L1_B at h;refine wp_seq (wr (pN 2 k z fun a k=>sv k z (r_len (α:=Int) (Enc.ow_rd Ac) k underlying29 z z) fun a k=>pN 1 k z fun a k=>nn (cI h k z (fun As h=>?_) fun As h=>?_)))
       · refine wp_skip (nm_then ?_);refine wp_block (d_go (Aa) mixo m z fun Az hMd=>?_);have m:=hMd;have s:=Ext.refl ((Aa):List Nat) Az;refine dM [0,1,2,4,5] 5 z k z s fun a k=>oE h fun Bk Bb h=>?_;obtain ⟨Bm,Bi,Au,Ar⟩:=sl_from (Enc.ow_rd Ac) Bb ts29;refine dT k 3 z z s (fun w s=>Ar k z z z _) fun a k=>oE h fun Ak Ao h=>?_;obtain ⟨Bh,Bd,Ba⟩:=sl_to (Enc.ow_rd Ac) Ao ts29;refine dT k 6 z z s (fun w s=>Ba k z z z _) fun a k=>dO 7 z (s_cp (lo:=Ab) te29 m 0 Ac Au (Enc.rd_agr Bd (m.a 0 z)) k z z z z z z z fun Aq a k e m Be=>?_);have s:=s.trans e (fun y hy=>Or.inl hy);refine wpList_nil ⟨s,?_⟩;refine dM [8,9] 2 z k z s fun a k=>dD ((nm_block (nm_then ?_)));exact ⟨cpd Ae Ab Ak,Ag,Aa,Aq,w64 (Ab + (cpn Ae Ab Ak)),k.keep [7,8] z,m.sl [0] z,Be,h⟩
       refine wp_exit (ex_then (ex_then (ex_same (nm_then ?_))));refine wr (pN 2 k z fun a k=>nn (wp_ret ?_));cases h;exact finR1 k z (RV.tmp k z) ⟨_,Aa,z,m.ext,(m.v Ac 0 z),(m.fresh 0 z)⟩
     exact ⟨cpd Aj 0 x1,Aw,[Av],At,cpn Aj 0 x1,k.keep [7,8] z,m.sl [0] z,Ay,h⟩
   refine wr (pN 3 k z fun a k=>bsplit (decide (x8.1 > 0)) (fun Ad=>?_) (fun Ad=>?_))
   · have h:=bif_t Ad h;refine rB k 23 z Ad fun k=>pN 3 k z fun a k=>nn (wp_cond_true (k.ev z) ?_);exact nS h
   have h:=bif_f Ad h;refine rB k 23 z Ad fun k=>pN 3 k z fun a k=>nn (cI h k z (fun Ax h=>?_) fun Ax h=>?_)
   · exact nS h
   refine wp_skip (nm_then ?_);exact ⟨k.keep [0,6] z,m.sl [] z,h⟩
 refine wr (pN 2 k z fun a k=>nn (cI h k z (fun Ap h=>?_) fun Ap h=>?_))
 · exact nS h
 refine wp_skip (nm_then ?_);exact ⟨k.keep [0,1] z,m.sl [] z,h⟩
theorem c_impl_Units (fu:Nat) {w0:World} (r1:Request) {Ao:List Value} {F3:List Nat} (Bi:rd w0 F3 Ao r1) {r:(List Int)}
    (h:d_impl_Units fu r1 = some r) :
    Calls Tryz.prog 42 #[.agg Ao.toArray] w0 fun e w=>∃ (v0:Value) (G0:List Nat),e = .returned (v0) ∧ Ext [] w0 w ∧ ow w G0 [v0] r ∧ (∀ b ∈ G0,w0.heap.size ≤ b):=by
 refine en (vs:=[_]) func42 z ntmps42 z fun a k m=>?_;obtain ⟨v5,F6,v7,F8,v9,Bq,rfl,rfl,Am,Ak,Ab⟩:=Bi;unfold d_impl_Units at h;refine wr (s_box (cs:=(cR r1 v5 v7 v9)) m k z z z z z z fun Bv Bk a k m e Ai=>pN 1 k z fun a k=>nn (wp_seq (wr (sv k z (rL ta40 m 0 Ai 0 k z) fun a k=>oE h fun Ca Bf h=>cC k m call33 z (c_impl_sound fu _ (mkRequest (m.r Am) (m.r Ak) (m.r Ab)) Bf) fun Bm e a k m=>?_))));refine pN 1 k z fun a k=>nn (cI h k z (fun As h=>?_) fun As h=>?_)
 · refine wr (pN 1 k z fun a k=>nn (wp_ret (rt_then ?_)));cases h;exact finR1 k z (RV.tmp k z) ⟨_,[],z,m.ext,(ow_nil _),(by simp)⟩
 refine wp_skip (nm_then ?_);refine wr (sB (cs:=[]) (ps:=[]) te29 m k z (by exact fN) fun Aj Bh Bl a k m e Be=>?_);have Ar:=ow_bx Be ([]:List Int) z z z;refine pN 1 k z fun a k=>nn (wp_seq (wr (fl fa40_6 t138 m 1 Ai k z z fun a k=>sv k z (r_len (α:=Item) Ab k underlying38 z z) fun a k=>pN 1 k z fun a k=>nn (wp_block (c_loop (fun n a w=>∃ (Ae:List Int) (Af:Value) (Ad:List Nat) (Ah:World) (Ac:Int),K 27 [(3,Af),(11,v9),(12,I ((r1.fItems.length:Int))),(13,I Ac)] a ∧ St [] w0 w [(Ad,Ah)] ∧ ow Ah Ad [Af] Ae ∧ d_impl_Units_L1 fu r1 n Ae Ac = some r) ?_ ?_ fu _ _ ?_)))))
 · rintro a w ⟨_,_,_,_,_,_,_,_,h⟩;exact nS h
 · rintro Bw a Bs ⟨Ae,Af,Ad,Ah,Ac,k,m,Al,h⟩;rw [d_impl_Units_L1.eq_2] at h;unfold d_impl_Units_L1_B at h;refine wr (pN 1 k z fun a k=>nn (wp_seq (cI h k z (fun Av h=>?_) fun Av h=>?_)))
   · refine wp_skip (nm_then ?_);refine wp_seq (wp_block (wr (pN 1 k z fun a k=>oE h fun Aa Ap h=>sv k z (r_ixa Ab Ap k ts38 z z z) fun a k=>sv k z (r_lde Ab (m.a00 (Enc.rd_lt Ab)) Ap ta83 k z z) fun a k=>s_alloc (cs:=[I 0,I 0,I 0,I 0,I 0,I 0,I 0]) m k zeroValue83 z z z z z fun Bp Cb a k m e Aw=>pN 1 k z fun a k=>sT (cs':=[I Aa.fId,I Aa.fW,I Aa.fH,I Aa.fD,I Aa.fGram,I Aa.fClass,I Aa.fCount]) sizeOf83 m 0 Aw 0 k z z fun Bu a k e m Ax=>nn (wp_region_lit (pN 2 k z fun a k=>?_)))));refine sB (cs:=[I Ac]) (ps:=[(0,.tmp 19)]) te29 m k z (by exact fC z fN) fun Br Bx Bt a k m e Bg=>?_;have Bb:=ow_bx Bg ([Ac]:List Int) z z z;refine fl fa83_6 t13 m 1 Ax k z z fun a k=>oE h fun By Az h=>sC k call67 z (c_slices_Repeat_int_int fu _ _ (m.q Bb 0 z) Az) fun Bo Bn hR=>?_;obtain ⟨Bz,Ba,rfl,e,Ag,Bj⟩:=hR;refine ⟨_,z,fun a k=>?_⟩;have m:=m.nw e Bj Ag;refine oE h fun Aq Ay h=>s_appF Ay te29 z m 3 Al (News.rd (m.q Ag 0 z)) z z k z z z z z z z fun Au Bc Bd a k e m At=>pN 1 k z fun a k=>wpList_nil (nm_block (nm_then ?_));refine wp_region_lit (pN 2 k z fun a k=>nn ?_)
     exact ⟨Aq,Au,Bc,Bd,w64 (Ac + 1),k.keep [3,11,12,13] z,m.sl [3] z,At,h⟩
   refine wp_exit (ex_then (ex_then (ex_same (nm_then ?_))));refine wr (pN 2 k z fun a k=>nn (wp_ret ?_));cases h;exact finR1 k z (RV.tmp k z) ⟨_,Ad,z,m.ext,(m.v Al 0 z),(m.fresh 0 z)⟩
 exact ⟨([]:List Int),(.slice (some ⟨Aj,0,none⟩) 0 0),[Aj],Bh,0,k.keep [3,11,12,13] z,m.sl [0] z,Ar,h⟩
theorem c_impl_OneEach (fu:Nat) {w0:World} (r1:Request) {Ao:List Value} {F3:List Nat} (Bh:rd w0 F3 Ao r1) {r:(List (List Int))}
    (h:d_impl_OneEach fu r1 = some r) :
    Calls Tryz.prog 14 #[.agg Ao.toArray] w0 fun e w=>∃ (v0:Value) (G0:List Nat),e = .returned (v0) ∧ Ext [] w0 w ∧ ow w G0 [v0] r ∧ (∀ b ∈ G0,w0.heap.size ≤ b):=by
 refine en (vs:=[_]) func14 z ntmps14 z fun a k m=>?_;obtain ⟨v5,F6,v7,F8,v9,Br,rfl,rfl,Am,Aj,Al⟩:=Bh;unfold d_impl_OneEach at h;refine wr (s_box (cs:=(cR r1 v5 v7 v9)) m k z z z z z z fun Bt Bk a k m e Aq=>pN 1 k z fun a k=>nn (wr (sB (cs:=[]) (ps:=[]) te47 m k z (by exact fN) fun Ak Bj Bp a k m e Ar=>?_)));have Ba:=ow_bx0 (α:=List Int) Ar;refine pN 1 k z fun a k=>nn (wp_seq (wr (sv k z (rL ta40 m 1 Aq 0 k z) fun a k=>oE h fun Ah Az h=>sC k call42 z (c_impl_Units fu _ (mkRequest (m.r Am) (m.r Aj) (m.r Al)) Az) fun Bo Bu hR=>?_)));obtain ⟨Bl,Be,rfl,e,Ae,Au⟩:=hR;refine ⟨_,z,fun a k=>?_⟩;have m:=m.nw e Au Ae;refine sv k z (r_len (α:=Int) (Enc.ow_rd Ae) k underlying29 z z) fun a k=>pN 1 k z fun a k=>nn (wp_block (c_loop (fun n a w=>∃ (Ac:List (List Int)) (Af:Value) (Ab:List Nat) (Ad:World) (Aa:Int),K 19 [(3,Af),(8,I ((Ah.length:Int))),(9,I Aa)] a ∧ St [] w0 w [(Ab,Ad)] ∧ ow Ad Ab [Af] Ac ∧ d_impl_OneEach_L1 fu Ah n Ac Aa = some r) ?_ ?_ fu _ _ ?_))
 · rintro a w ⟨_,_,_,_,_,_,_,_,h⟩;exact nS h
 · rintro Bv a Bw ⟨Ac,Af,Ab,Ad,Aa,k,m,Ap,h⟩;rw [d_impl_OneEach_L1.eq_2] at h;unfold d_impl_OneEach_L1_B at h;refine wr (pN 1 k z fun a k=>nn (wp_seq (cI h k z (fun Bi h=>?_) fun Bi h=>?_)))
   · refine wp_skip (nm_then ?_);refine wp_seq (wp_block (wr (pN 2 k z fun a k=>nn (wp_region_lit (pN 2 k z fun a k=>sB (cs:=[I Aa]) (ps:=[(0,.tmp 13)]) te29 m k z (by exact fC z fN) fun Ai Bs Bx a k m e Ay=>?_)))));have Ag:=ow_bx Ay ([Aa]:List Int) z z z;refine sB (cs:=[(.slice (some ⟨Ai,0,none⟩) 1 1)]) (ps:=[(0,.tmp 14)]) te47 m k z (by exact (List.forall_mem_cons.2 ⟨congrArg Array.size (rd_c (Enc.ow_rd Ag)),fN⟩)) fun Bm Bq Bn a k m e At=>oE h fun Bg Aw h=>?_;have As:=Enc.ow_agr Ag (m.a 1 z);have Bc:=News.box At (m.a 0 z) (by simp) (m:=1);have Bd:=m.a 2 z;have m:=m.sl [2,1,0] z;have m:=m.join2;refine s_appO (F:=Ab) (G:=[Ai]) Aw te47 z m Ap Bd Bc As (Agr.refl _ _) k z z z z z z fun Bb Bf Ax a k e m Av=>pN 1 k z fun a k=>wpList_nil (nm_block (nm_then ?_));refine wp_region_lit (pN 2 k z fun a k=>nn ?_);exact ⟨Bg,Bb,Bf,Ax,w64 (Aa + 1),k.keep [3,8,9] z,m.sl [0] z,Av,h⟩
   refine wp_exit (ex_then (ex_then (ex_same (nm_then ?_))));refine wr (pN 2 k z fun a k=>nn (wp_ret ?_));cases h;exact finR1 k z (RV.tmp k z) ⟨_,Ab,z,m.ext,(m.v Ap 0 z),(m.fresh 0 z)⟩
 exact ⟨([]:List (List Int)),(.slice (some ⟨Ak,0,none⟩) 0 0),[Ak],Bj,0,k.keep [3,8,9] z,m.sl [1] z,Ba,h⟩

end Go.Proofs.YtcboeijpplllfaaGreat
