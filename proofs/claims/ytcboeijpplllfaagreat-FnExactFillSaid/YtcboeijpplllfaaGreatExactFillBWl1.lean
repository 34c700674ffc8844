/- FnExactFill: the walks of functions that it reaches (ExactFillBWl,part 1). Printed by gen.py. -/
import Derived.Test.YtcboeijpplllfaaGreatExactFillBT
set_option maxRecDepth 20000
set_option linter.unusedSimpArgs false
set_option linter.unusedVariables false
set_option linter.unnecessarySimpa false
namespace Go.Proofs.YtcboeijpplllfaaGreat
open Go Go.RowKit
open Enc (rd ow)
open Arg (argv)
open Ret (retv)
open Go.Proofs.Tryz


theorem c_laws_szPairS (fu:Nat) {w0:World} (a1:List Pair) (Aa:Int) {v2:Value} {F3:List Nat} (Ac:rd w0 F3 [v2] a1) {r:Int}
    (h:d_laws_szPairS fu a1 Aa = some r) :
    Calls Tryz.prog 19 #[v2,I Aa] w0 fun e w=>e = .returned (I r) ∧ Ext [] w0 w:=by
 refine en (vs:=[_,_]) func19 z ntmps19 z fun a k m=>?_;unfold d_laws_szPairS at h;refine wr (pN 1 k z fun a k=>nn (wr (pN 2 k z fun a k=>sv k z (r_len (α:=Pair) Ac k underlying24 z z) fun a k=>pN 2 k z fun a k=>nn (wp_seq (wr (pN 2 k z fun a k=>nn (cI h k z (fun Ab h=>?_) fun Ab h=>?_)))))))
 · refine wr (pN 1 k z fun a k=>nn (wp_ret (rt_then ?_)));refine fS h k m z z
 refine wp_skip (nm_then ?_);refine wr (pN 2 k z fun a k=>nn (wp_ret (fS h k m z z)))
theorem c_laws_szTypeS (fu:Nat) {w0:World} (a1:List Typ) (Aa:Int) {v2:Value} {F3:List Nat} (Ac:rd w0 F3 [v2] a1) {r:Int}
    (h:d_laws_szTypeS fu a1 Aa = some r) :
    Calls Tryz.prog 20 #[v2,I Aa] w0 fun e w=>e = .returned (I r) ∧ Ext [] w0 w:=by
 refine en (vs:=[_,_]) func20 z ntmps20 z fun a k m=>?_;unfold d_laws_szTypeS at h;refine wr (pN 1 k z fun a k=>nn (wr (pN 2 k z fun a k=>sv k z (r_len (α:=Typ) Ac k underlying25 z z) fun a k=>pN 2 k z fun a k=>nn (wp_seq (wr (pN 2 k z fun a k=>nn (cI h k z (fun Ab h=>?_) fun Ab h=>?_)))))))
 · refine wr (pN 1 k z fun a k=>nn (wp_ret (rt_then ?_)));refine fS h k m z z
 refine wp_skip (nm_then ?_);refine wr (pN 2 k z fun a k=>nn (wp_ret (fS h k m z z)))
theorem c_laws_szItemS (fu:Nat) {w0:World} (a1:List Item) (Aa:Int) {v2:Value} {F3:List Nat} (Ac:rd w0 F3 [v2] a1) {r:Int}
    (h:d_laws_szItemS fu a1 Aa = some r) :
    Calls Tryz.prog 21 #[v2,I Aa] w0 fun e w=>e = .returned (I r) ∧ Ext [] w0 w:=by
 refine en (vs:=[_,_]) func21 z ntmps21 z fun a k m=>?_;unfold d_laws_szItemS at h;refine wr (pN 1 k z fun a k=>nn (wr (pN 2 k z fun a k=>sv k z (r_len (α:=Item) Ac k underlying26 z z) fun a k=>pN 2 k z fun a k=>nn (wp_seq (wr (pN 2 k z fun a k=>nn (cI h k z (fun Ab h=>?_) fun Ab h=>?_)))))))
 · refine wr (pN 1 k z fun a k=>nn (wp_ret (rt_then ?_)));refine fS h k m z z
 refine wp_skip (nm_then ?_);refine wr (pN 2 k z fun a k=>nn (wp_ret (fS h k m z z)))
theorem c_laws_szRequest (fu:Nat) {w0:World} (a1:Request) (Ac:Int) {Ad:List Value} {F3:List Nat} (Am:rd w0 F3 Ad a1) {r:Int}
    (h:d_laws_szRequest fu a1 Ac = some r) :
    Calls Tryz.prog 5 #[.agg Ad.toArray,I Ac] w0 fun e w=>e = .returned (I r) ∧ Ext [] w0 w:=by
 refine en (vs:=[_,_]) func5 z ntmps5 z fun a k m=>?_;obtain ⟨v6,F7,v8,F9,Ak,Ax,rfl,rfl,Af,Ae,Ab⟩:=Am;unfold d_laws_szRequest at h;refine wr (s_box (cs:=(cR a1 v6 v8 Ak)) m k z z z z z z fun Aw Aq a k m e Aa=>pN 1 k z fun a k=>nn (wr (fl fa28_3 t124 m 0 Aa k z z fun a k=>pN 1 k z fun a k=>oE h fun Ap Ai h=>cC k m call19 z (c_laws_szPairS fu _ _ (m.r Af) Ai) fun Au e a k m=>pN 1 k z fun a k=>nn (wp_seq (wr (pN 2 k z fun a k=>nn (cI h k z (fun Aj h=>?_) fun Aj h=>?_)))))))
 · refine wr (pN 1 k z fun a k=>nn (wp_ret (rt_then ?_)));refine fS h k m z z
 refine wp_skip (nm_then ?_);refine wr (fl fa28_4 t125 m 0 Aa k z z fun a k=>pN 1 k z fun a k=>oE h fun Av Al h=>cC k m call20 z (c_laws_szTypeS fu _ _ (m.r Ae) Al) fun Ar e a k m=>pN 1 k z fun a k=>nn (wp_seq (wr (pN 2 k z fun a k=>nn (cI h k z (fun Ag h=>?_) fun Ag h=>?_)))))
 · refine wr (pN 1 k z fun a k=>nn (wp_ret (rt_then ?_)));refine fS h k m z z
 refine wp_skip (nm_then ?_);refine wr (fl fa28_6 t126 m 0 Aa k z z fun a k=>pN 1 k z fun a k=>oE h fun As Ah h=>cC k m call21 z (c_laws_szItemS fu _ _ (m.r Ab) Ah) fun At e a k m=>pN 1 k z fun a k=>nn (wp_seq (wr (pN 2 k z fun a k=>nn (cI h k z (fun Ao h=>?_) fun Ao h=>?_)))))
 · refine wr (pN 1 k z fun a k=>nn (wp_ret (rt_then ?_)));refine fS h k m z z
 refine wp_skip (nm_then ?_);refine wr (pN 2 k z fun a k=>?_);have k:=k.keep [4] z;refine nn (wp_ret (fS h k m z z))
theorem c_laws_szIntS (fu:Nat) {w0:World} (a1:List Int) (Aa:Int) {v2:Value} {F3:List Nat} (Ac:rd w0 F3 [v2] a1) {r:Int}
    (h:d_laws_szIntS fu a1 Aa = some r) :
    Calls Tryz.prog 22 #[v2,I Aa] w0 fun e w=>e = .returned (I r) ∧ Ext [] w0 w:=by
 refine en (vs:=[_,_]) func22 z ntmps22 z fun a k m=>?_;unfold d_laws_szIntS at h;refine wr (pN 1 k z fun a k=>nn (wr (pN 2 k z fun a k=>sv k z (r_len (α:=Int) Ac k underlying29 z z) fun a k=>pN 2 k z fun a k=>nn (wp_seq (wr (pN 2 k z fun a k=>nn (cI h k z (fun Ab h=>?_) fun Ab h=>?_)))))))
 · refine wr (pN 1 k z fun a k=>nn (wp_ret (rt_then ?_)));refine fS h k m z z
 refine wp_skip (nm_then ?_);refine wr (pN 2 k z fun a k=>nn (wp_ret (fS h k m z z)))
theorem c_laws_szCarton (fu:Nat) {w0:World} (a1:Carton) (Ac:Int) {Aa:List Value} {F3:List Nat} (Ae:rd w0 F3 Aa a1) {r:Int}
    (h:d_laws_szCarton fu a1 Ac = some r) :
    Calls Tryz.prog 6 #[.agg Aa.toArray,I Ac] w0 fun e w=>e = .returned (I r) ∧ Ext [] w0 w:=by
 refine en (vs:=[_,_]) func6 z ntmps6 z fun a k m=>?_;obtain ⟨v6,_,rfl,rfl,Ab⟩:=Ae;unfold d_laws_szCarton at h;refine wr (s_box (cs:=[I a1.fType,I a1.fGroup,v6]) m k z z z z z z fun b8 Ai a k m e Af=>pN 1 k z fun a k=>nn (wr (fl fa31_2 t129 m 0 Af k z z fun a k=>pN 1 k z fun a k=>oE h fun Ah Ag h=>cC k m call22 z (c_laws_szIntS fu _ _ (m.r Ab) Ag) fun Aj e a k m=>pN 1 k z fun a k=>nn (wp_seq (wr (pN 2 k z fun a k=>nn (cI h k z (fun Ad h=>?_) fun Ad h=>?_)))))))
 · refine wr (pN 1 k z fun a k=>nn (wp_ret (rt_then ?_)));refine fS h k m z z
 refine wp_skip (nm_then ?_);refine wr (pN 2 k z fun a k=>nn (wp_ret (fS h k m z z)))
theorem c_laws_toPallet (fu:Nat) {w0:World} (a1:Pallet)  {r:Pallet}
    (h:d_laws_toPallet fu a1 = some r) :
    Calls Tryz.prog 27 #[.agg (Flat.e (a1)).toArray] w0 fun e w=>e = .returned (.agg (Flat.e r).toArray) ∧ Ext [] w0 w:=by
 refine en (vs:=[_]) func27 z ntmps27 z fun a k m=>?_;unfold d_laws_toPallet at h;refine wr (s_box (cs:=[I a1.fW,I a1.fD,I a1.fH,I a1.fGram]) m k z z z z z z fun b2 w4 a k m e Aa=>s_alloc (cs:=[I 0,I 0,I 0,I 0]) m k zeroValue35 z z z z z fun b5 w7 a k m e Ag=>nn (wr (s_alloc (cs:=[I 0,I 0,I 0,I 0]) m k zeroValue35 z z z z z fun b8 Al a k m e Ad=>nn (wr (fl fa23_0 t13 m 2 Aa k z z fun a k=>sv k z (r_fa fa35_0 k z z) fun a k=>sT (cs':=[I a1.fW,I 0,I 0,I 0]) sizeOf3 m 0 Ad 0 k z z fun Ak a k e m Ah=>nn (wr (sv k z (r_fa fa23_1 k z z) fun a k=>?_)))))));refine sv k z (r_ldb t13 m 2 Aa 1 k z z z z z) fun a k=>sv k z (r_fa fa35_1 k z z) fun a k=>sT (cs':=[I a1.fW,I a1.fD,I 0,I 0]) sizeOf3 m 0 Ah 1 k z z fun Aj a k e m Ab=>nn (wr (fl fa23_2 t13 m 2 Aa k z z fun a k=>sv k z (r_fa fa35_2 k z z) fun a k=>sT (cs':=[I a1.fW,I a1.fD,I a1.fH,I 0]) sizeOf3 m 0 Ab 2 k z z fun Ai a k e m Af=>nn (wr (fl fa23_3 t13 m 2 Aa k z z fun a k=>sv k z (r_fa fa35_3 k z z) fun a k=>?_))))
 refine sT (cs':=[I a1.fW,I a1.fD,I a1.fH,I a1.fGram]) sizeOf3 m 0 Af 3 k z z fun Am a k e m Ac=>nn (wr (sv k z (rL ta35 m 0 Ac 0 k z) fun a k=>sT (cs':=[I a1.fW,I a1.fD,I a1.fH,I a1.fGram]) sizeOf35 m 1 Ag 0 k z z fun Ao a k e m Ae=>nn (wp_ret ?_)));cases h;exact finR1 k z (RV.cA k z ta35 (Ae.at (m.a 1 z) 0 4 z z z) z) ⟨z,m.ext⟩
theorem c_laws_toPair (fu:Nat) {w0:World} (a1:Pair)  {r:Pair}
    (h:d_laws_toPair fu a1 = some r) :
    Calls Tryz.prog 55 #[.agg (Flat.e (a1)).toArray] w0 fun e w=>e = .returned (.agg (Flat.e r).toArray) ∧ Ext [] w0 w:=by
 refine en (vs:=[_]) func55 z ntmps55 z fun a k m=>?_;unfold d_laws_toPair at h;refine wr (s_box (cs:=[I a1.fA,I a1.fB]) m k z z z z z z fun b2 w4 a k m e Aa=>s_alloc (cs:=[I 0,I 0]) m k zeroValue88 z z z z z fun b5 w7 a k m e Ae=>nn (wr (s_alloc (cs:=[I 0,I 0]) m k zeroValue88 z z z z z fun b8 Aj a k m e Ac=>nn (wr (fl fa90_0 t13 m 2 Aa k z z fun a k=>sv k z (r_fa fa88_0 k z z) fun a k=>sT (cs':=[I a1.fA,I 0]) sizeOf3 m 0 Ac 0 k z z fun Ai a k e m Af=>nn (wr (fl fa90_1 t13 m 2 Aa k z z fun a k=>sv k z (r_fa fa88_1 k z z) fun a k=>?_)))))));refine sT (cs':=[I a1.fA,I a1.fB]) sizeOf3 m 0 Af 1 k z z fun Ah a k e m Ab=>nn (wr (sv k z (rL ta88 m 0 Ab 0 k z) fun a k=>sT (cs':=[I a1.fA,I a1.fB]) sizeOf88 m 1 Ae 0 k z z fun Ag a k e m Ad=>nn (wp_ret ?_)));cases h;exact finR1 k z (RV.cA k z ta88 (Ad.at (m.a 1 z) 0 2 z z z) z) ⟨z,m.ext⟩
theorem c_laws_toPairS (fu:Nat) {w0:World} (a1:List Pair) {v2:Value} {F3:List Nat} (Ab:rd w0 F3 [v2] a1) {r:(List Pair)}
    (h:d_laws_toPairS fu a1 = some r) :
    Calls Tryz.prog 28 #[v2] w0 fun e w=>∃ (v0:Value) (G0:List Nat),e = .returned (v0) ∧ Ext [] w0 w ∧ ow w G0 [v0] r ∧ (∀ b ∈ G0,w0.heap.size ≤ b):=by
 refine en (vs:=[_]) func28 z ntmps28 z fun a k m=>?_;unfold d_laws_toPairS at h;refine wr (pN 1 k z fun a k=>nn (wr (pN 1 k z fun a k=>sv k z (r_len (α:=Pair) Ab k underlying24 z z) fun a k=>oE h fun x5 Aq h=>s_mk Aq te36 z z m k z z z z z z fun g7 w9 a As k m e Ao=>pN 1 k z fun a k=>nn (wp_seq (wr (pN 1 k z fun a k=>nn (wp_block (c_loop (fun n a w=>∃ (Ad:List Pair) (Ae:Value) (Aa:List Nat) (Ag:World) (Ac:Int),K 23 [(0,v2),(3,Ae),(4,I Ac)] a ∧ St [] w0 w [(Aa,Ag)] ∧ ow Ag Aa [Ae] Ad ∧ d_laws_toPairS_L1 fu a1 n Ad Ac = some r) ?_ ?_ fu _ _ ?_))))))))
 · rintro a w ⟨_,_,_,_,_,_,_,_,h⟩;exact nS h
 · rintro Av a Au ⟨Ad,Ae,Aa,Ag,Ac,k,m,Af,h⟩;rw [d_laws_toPairS_L1.eq_2] at h;unfold d_laws_toPairS_L1_B at h;refine wp_seq (wr (pN 2 k z fun a k=>sv k z (r_len (α:=Pair) Ab k underlying24 z z) fun a k=>pN 1 k z fun a k=>nn (cI h k z (fun Am h=>?_) fun Am h=>?_)))
   · refine wp_skip (nm_then ?_);refine wp_seq (wp_block (wp_region_lit (pN 4 k z fun a k=>oE h fun Ar Ai h=>sv k z (r_ixa Ab Ai k ts24 z z z) fun a k=>sv k z (r_lde Ab (m.a00 (Enc.rd_lt Ab)) Ai ta90 k z z) fun a k=>oE h fun Aj Al h=>cC k m call55 z (c_laws_toPair fu (Ar:Pair)  Al) fun Aw e a k m=>oE h fun At Ah h=>sv k z (r_ixa (Enc.ow_rd Af) Ah k ts36 z z z) fun a k=>s_ste (α:=Pair) (sz:=2) (y:=Aj) sizeOf88 Ah m 0 Af 0 k z z z z z z z z z z z z fun Ap a k e m Ak=>wpList_nil (nm_block (nm_then ?_)))));refine wp_region_lit (pN 3 k z fun a k=>nn ?_);exact ⟨setx Ad Ac Aj,Ae,Aa,Ap,w64 (Ac + 1),k.keep [0,3,4] z,m.sl [0] z,Ak,h⟩
   refine wp_exit (ex_then (ex_then (ex_same (nm_then ?_))));refine wr (pN 2 k z fun a k=>nn (wp_ret ?_));cases h;exact finR1 k z (RV.tmp k z) ⟨_,Aa,z,m.ext,(m.v Af 0 z),(m.fresh 0 z)⟩
 exact ⟨x5,As,[g7],w9,0,k.keep [0,3,4] z,m.sl [0] z,Ao,h⟩
theorem c_laws_toType (fu:Nat) {w0:World} (a1:Typ)  {r:Typ}
    (h:d_laws_toType fu a1 = some r) :
    Calls Tryz.prog 56 #[.agg (Flat.e (a1)).toArray] w0 fun e w=>e = .returned (.agg (Flat.e r).toArray) ∧ Ext [] w0 w:=by
 refine en (vs:=[_]) func56 z ntmps56 z fun a k m=>?_;unfold d_laws_toType at h;refine wr (s_box (cs:=[I a1.fId,I a1.fW,I a1.fH,I a1.fD,I a1.fTare,I a1.fGram,I a1.fCost]) m k z z z z z z fun b2 w4 a k m e Aa=>s_alloc (cs:=[I 0,I 0,I 0,I 0,I 0,I 0,I 0]) m k zeroValue58 z z z z z fun b5 w7 a k m e Ac=>nn (wr (s_alloc (cs:=[I 0,I 0,I 0,I 0,I 0,I 0,I 0]) m k zeroValue58 z z z z z fun b8 Au a k m e Aj=>nn (wr (fl fa92_0 t13 m 2 Aa k z z fun a k=>sv k z (r_fa fa58_0 k z z) fun a k=>?_)))));refine sT (cs':=[I a1.fId,I 0,I 0,I 0,I 0,I 0,I 0]) sizeOf3 m 0 Aj 0 k z z fun Al a k e m Ak=>nn (wr (fl fa92_1 t13 m 2 Aa k z z fun a k=>sv k z (r_fa fa58_1 k z z) fun a k=>sT (cs':=[I a1.fId,I a1.fW,I 0,I 0,I 0,I 0,I 0]) sizeOf3 m 0 Ak 1 k z z fun At a k e m Ai=>nn (wr (fl fa92_2 t13 m 2 Aa k z z fun a k=>sv k z (r_fa fa58_2 k z z) fun a k=>?_))))
 refine sT (cs':=[I a1.fId,I a1.fW,I a1.fH,I 0,I 0,I 0,I 0]) sizeOf3 m 0 Ai 2 k z z fun Ar a k e m Ab=>nn (wr (fl fa92_3 t13 m 2 Aa k z z fun a k=>sv k z (r_fa fa58_3 k z z) fun a k=>sT (cs':=[I a1.fId,I a1.fW,I a1.fH,I a1.fD,I 0,I 0,I 0]) sizeOf3 m 0 Ab 3 k z z fun Ao a k e m Af=>nn (wr (fl fa92_4 t13 m 2 Aa k z z fun a k=>sv k z (r_fa fa58_4 k z z) fun a k=>?_))));refine sT (cs':=[I a1.fId,I a1.fW,I a1.fH,I a1.fD,I a1.fTare,I 0,I 0]) sizeOf3 m 0 Af 4 k z z fun Aq a k e m Ag=>nn (wr (fl fa92_5 t13 m 2 Aa k z z fun a k=>sv k z (r_fa fa58_5 k z z) fun a k=>sT (cs':=[I a1.fId,I a1.fW,I a1.fH,I a1.fD,I a1.fTare,I a1.fGram,I 0]) sizeOf3 m 0 Ag 5 k z z fun As a k e m Ad=>?_));have k:=k.keep [1,2,3] z;refine nn (wr (fl fa92_6 t13 m 2 Aa k z z fun a k=>sv k z (r_fa fa58_6 k z z) fun a k=>sT (cs':=[I a1.fId,I a1.fW,I a1.fH,I a1.fD,I a1.fTare,I a1.fGram,I a1.fCost]) sizeOf3 m 0 Ad 6 k z z fun Am a k e m Ae=>nn (wr (sv k z (rL ta58 m 0 Ae 0 k z) fun a k=>sT (cs':=[I a1.fId,I a1.fW,I a1.fH,I a1.fD,I a1.fTare,I a1.fGram,I a1.fCost]) sizeOf58 m 1 Ac 0 k z z fun Ap a k e m Ah=>nn (wp_ret ?_)))))
 cases h;exact finR1 k z (RV.cA k z ta58 (Ah.at (m.a 1 z) 0 7 z z z) z) ⟨z,m.ext⟩
theorem c_laws_toTypeS (fu:Nat) {w0:World} (a1:List Typ) {v2:Value} {F3:List Nat} (Ab:rd w0 F3 [v2] a1) {r:(List Typ)}
    (h:d_laws_toTypeS fu a1 = some r) :
    Calls Tryz.prog 29 #[v2] w0 fun e w=>∃ (v0:Value) (G0:List Nat),e = .returned (v0) ∧ Ext [] w0 w ∧ ow w G0 [v0] r ∧ (∀ b ∈ G0,w0.heap.size ≤ b):=by
 refine en (vs:=[_]) func29 z ntmps29 z fun a k m=>?_;unfold d_laws_toTypeS at h;refine wr (pN 1 k z fun a k=>nn (wr (pN 1 k z fun a k=>sv k z (r_len (α:=Typ) Ab k underlying25 z z) fun a k=>oE h fun x5 Aq h=>s_mk Aq te37 z z m k z z z z z z fun g7 w9 a As k m e Ao=>pN 1 k z fun a k=>nn (wp_seq (wr (pN 1 k z fun a k=>nn (wp_block (c_loop (fun n a w=>∃ (Ad:List Typ) (Ae:Value) (Aa:List Nat) (Ag:World) (Ac:Int),K 23 [(0,v2),(3,Ae),(4,I Ac)] a ∧ St [] w0 w [(Aa,Ag)] ∧ ow Ag Aa [Ae] Ad ∧ d_laws_toTypeS_L1 fu a1 n Ad Ac = some r) ?_ ?_ fu _ _ ?_))))))))
 · rintro a w ⟨_,_,_,_,_,_,_,_,h⟩;exact nS h
 · rintro Av a Au ⟨Ad,Ae,Aa,Ag,Ac,k,m,Af,h⟩;rw [d_laws_toTypeS_L1.eq_2] at h;unfold d_laws_toTypeS_L1_B at h;refine wp_seq (wr (pN 2 k z fun a k=>sv k z (r_len (α:=Typ) Ab k underlying25 z z) fun a k=>pN 1 k z fun a k=>nn (cI h k z (fun Am h=>?_) fun Am h=>?_)))
   · refine wp_skip (nm_then ?_);refine wp_seq (wp_block (wp_region_lit (pN 4 k z fun a k=>oE h fun Ar Ai h=>sv k z (r_ixa Ab Ai k ts25 z z z) fun a k=>sv k z (r_lde Ab (m.a00 (Enc.rd_lt Ab)) Ai ta92 k z z) fun a k=>oE h fun Aj Al h=>cC k m call56 z (c_laws_toType fu (Ar:Typ)  Al) fun Aw e a k m=>oE h fun At Ah h=>sv k z (r_ixa (Enc.ow_rd Af) Ah k ts37 z z z) fun a k=>s_ste (α:=Typ) (sz:=7) (y:=Aj) sizeOf58 Ah m 0 Af 0 k z z z z z z z z z z z z fun Ap a k e m Ak=>wpList_nil (nm_block (nm_then ?_)))));refine wp_region_lit (pN 3 k z fun a k=>nn ?_);exact ⟨setx Ad Ac Aj,Ae,Aa,Ap,w64 (Ac + 1),k.keep [0,3,4] z,m.sl [0] z,Ak,h⟩
   refine wp_exit (ex_then (ex_then (ex_same (nm_then ?_))));refine wr (pN 2 k z fun a k=>nn (wp_ret ?_));cases h;exact finR1 k z (RV.tmp k z) ⟨_,Aa,z,m.ext,(m.v Af 0 z),(m.fresh 0 z)⟩
 exact ⟨x5,As,[g7],w9,0,k.keep [0,3,4] z,m.sl [0] z,Ao,h⟩
theorem c_laws_toItem (fu:Nat) {w0:World} (a1:Item)  {r:Item}
    (h:d_laws_toItem fu a1 = some r) :
    Calls Tryz.prog 57 #[.agg (Flat.e (a1)).toArray] w0 fun e w=>e = .returned (.agg (Flat.e r).toArray) ∧ Ext [] w0 w:=by
 refine en (vs:=[_]) func57 z ntmps57 z fun a k m=>?_;unfold d_laws_toItem at h;refine wr (s_box (cs:=[I a1.fId,I a1.fW,I a1.fH,I a1.fD,I a1.fGram,I a1.fClass,I a1.fCount]) m k z z z z z z fun b2 w4 a k m e Aa=>s_alloc (cs:=[I 0,I 0,I 0,I 0,I 0,I 0,I 0]) m k zeroValue83 z z z z z fun b5 w7 a k m e Ac=>nn (wr (s_alloc (cs:=[I 0,I 0,I 0,I 0,I 0,I 0,I 0]) m k zeroValue83 z z z z z fun b8 Au a k m e Aj=>nn (wr (fl fa94_0 t13 m 2 Aa k z z fun a k=>sv k z (r_fa fa83_0 k z z) fun a k=>?_)))));refine sT (cs':=[I a1.fId,I 0,I 0,I 0,I 0,I 0,I 0]) sizeOf3 m 0 Aj 0 k z z fun Al a k e m Ak=>nn (wr (fl fa94_1 t13 m 2 Aa k z z fun a k=>sv k z (r_fa fa83_1 k z z) fun a k=>sT (cs':=[I a1.fId,I a1.fW,I 0,I 0,I 0,I 0,I 0]) sizeOf3 m 0 Ak 1 k z z fun At a k e m Ai=>nn (wr (fl fa94_2 t13 m 2 Aa k z z fun a k=>sv k z (r_fa fa83_2 k z z) fun a k=>?_))))
 refine sT (cs':=[I a1.fId,I a1.fW,I a1.fH,I 0,I 0,I 0,I 0]) sizeOf3 m 0 Ai 2 k z z fun Ar a k e m Ab=>nn (wr (fl fa94_3 t13 m 2 Aa k z z fun a k=>sv k z (r_fa fa83_3 k z z) fun a k=>sT (cs':=[I a1.fId,I a1.fW,I a1.fH,I a1.fD,I 0,I 0,I 0]) sizeOf3 m 0 Ab 3 k z z fun Ao a k e m Af=>nn (wr (fl fa94_4 t13 m 2 Aa k z z fun a k=>sv k z (r_fa fa83_4 k z z) fun a k=>?_))));refine sT (cs':=[I a1.fId,I a1.fW,I a1.fH,I a1.fD,I a1.fGram,I 0,I 0]) sizeOf3 m 0 Af 4 k z z fun Aq a k e m Ag=>nn (wr (fl fa94_5 t13 m 2 Aa k z z fun a k=>sv k z (r_fa fa83_5 k z z) fun a k=>sT (cs':=[I a1.fId,I a1.fW,I a1.fH,I a1.fD,I a1.fGram,I a1.fClass,I 0]) sizeOf3 m 0 Ag 5 k z z fun As a k e m Ad=>?_));have k:=k.keep [1,2,3] z
 refine nn (wr (fl fa94_6 t13 m 2 Aa k z z fun a k=>sv k z (r_fa fa83_6 k z z) fun a k=>sT (cs':=[I a1.fId,I a1.fW,I a1.fH,I a1.fD,I a1.fGram,I a1.fClass,I a1.fCount]) sizeOf3 m 0 Ad 6 k z z fun Am a k e m Ae=>nn (wr (sv k z (rL ta83 m 0 Ae 0 k z) fun a k=>sT (cs':=[I a1.fId,I a1.fW,I a1.fH,I a1.fD,I a1.fGram,I a1.fClass,I a1.fCount]) sizeOf83 m 1 Ac 0 k z z fun Ap a k e m Ah=>nn (wp_ret ?_)))));cases h;exact finR1 k z (RV.cA k z ta83 (Ah.at (m.a 1 z) 0 7 z z z) z) ⟨z,m.ext⟩
theorem c_laws_toItemS (fu:Nat) {w0:World} (a1:List Item) {v2:Value} {F3:List Nat} (Ab:rd w0 F3 [v2] a1) {r:(List Item)}
    (h:d_laws_toItemS fu a1 = some r) :
    Calls Tryz.prog 30 #[v2] w0 fun e w=>∃ (v0:Value) (G0:List Nat),e = .returned (v0) ∧ Ext [] w0 w ∧ ow w G0 [v0] r ∧ (∀ b ∈ G0,w0.heap.size ≤ b):=by
 refine en (vs:=[_]) func30 z ntmps30 z fun a k m=>?_;unfold d_laws_toItemS at h;refine wr (pN 1 k z fun a k=>nn (wr (pN 1 k z fun a k=>sv k z (r_len (α:=Item) Ab k underlying26 z z) fun a k=>oE h fun x5 Aq h=>s_mk Aq te38 z z m k z z z z z z fun g7 w9 a As k m e Ao=>pN 1 k z fun a k=>nn (wp_seq (wr (pN 1 k z fun a k=>nn (wp_block (c_loop (fun n a w=>∃ (Ad:List Item) (Ae:Value) (Aa:List Nat) (Ag:World) (Ac:Int),K 23 [(0,v2),(3,Ae),(4,I Ac)] a ∧ St [] w0 w [(Aa,Ag)] ∧ ow Ag Aa [Ae] Ad ∧ d_laws_toItemS_L1 fu a1 n Ad Ac = some r) ?_ ?_ fu _ _ ?_))))))))
 · rintro a w ⟨_,_,_,_,_,_,_,_,h⟩;exact nS h
 · rintro Av a Au ⟨Ad,Ae,Aa,Ag,Ac,k,m,Af,h⟩;rw [d_laws_toItemS_L1.eq_2] at h;unfold d_laws_toItemS_L1_B at h;refine wp_seq (wr (pN 2 k z fun a k=>sv k z (r_len (α:=Item) Ab k underlying26 z z) fun a k=>pN 1 k z fun a k=>nn (cI h k z (fun Am h=>?_) fun Am h=>?_)))
   · refine wp_skip (nm_then ?_);refine wp_seq (wp_block (wp_region_lit (pN 4 k z fun a k=>oE h fun Ar Ai h=>sv k z (r_ixa Ab Ai k ts26 z z z) fun a k=>sv k z (r_lde Ab (m.a00 (Enc.rd_lt Ab)) Ai ta94 k z z) fun a k=>oE h fun Aj Al h=>cC k m call57 z (c_laws_toItem fu (Ar:Item)  Al) fun Aw e a k m=>oE h fun At Ah h=>sv k z (r_ixa (Enc.ow_rd Af) Ah k ts38 z z z) fun a k=>s_ste (α:=Item) (sz:=7) (y:=Aj) sizeOf83 Ah m 0 Af 0 k z z z z z z z z z z z z fun Ap a k e m Ak=>wpList_nil (nm_block (nm_then ?_)))));refine wp_region_lit (pN 3 k z fun a k=>nn ?_);exact ⟨setx Ad Ac Aj,Ae,Aa,Ap,w64 (Ac + 1),k.keep [0,3,4] z,m.sl [0] z,Ak,h⟩
   refine wp_exit (ex_then (ex_then (ex_same (nm_then ?_))));refine wr (pN 2 k z fun a k=>nn (wp_ret ?_));cases h;exact finR1 k z (RV.tmp k z) ⟨_,Aa,z,m.ext,(m.v Af 0 z),(m.fresh 0 z)⟩
 exact ⟨x5,As,[g7],w9,0,k.keep [0,3,4] z,m.sl [0] z,Ao,h⟩
theorem c_laws_toRequest (fu:Nat) {w0:World} (a1:Request) {Am:List Value} {F3:List Nat} (Bf:rd w0 F3 Am a1) {r:Request}
    (h:d_laws_toRequest fu a1 = some r) :
    Calls Tryz.prog 8 #[.agg Am.toArray] w0 fun e w=>∃ (Aj:List Value) (G0:List Nat),e = .returned (.agg Aj.toArray) ∧ Ext [] w0 w ∧ ow w G0 Aj r ∧ (∀ b ∈ G0,w0.heap.size ≤ b):=by
 refine en (vs:=[_]) func8 z ntmps8 z fun a k m=>?_;obtain ⟨v5,F6,v7,F8,v9,Ce,rfl,rfl,Ak,Ap,Ao⟩:=Bf;unfold d_laws_toRequest at h;refine wr (s_box (cs:=(cR a1 v5 v7 v9)) m k z z z z z z fun Bs Bp a k m e Ab=>s_alloc (cs:=[I 0,I 0,I 0,I 0,I 0,I 0,.slice none 0 0,.slice none 0 0,I 0,.slice none 0 0]) m k zeroValue40 z z z z z fun Cc Bx a k m e Ba=>nn (wr (s_alloc (cs:=[I 0,I 0,I 0,I 0,I 0,I 0,.slice none 0 0,.slice none 0 0,I 0,.slice none 0 0]) m k zeroValue40 z z z z z fun Ci Ch a k m e Ax=>nn (wr (sv k z (r_fa fa28_0 k z z) fun a k=>?_)))));refine sv k z (r_ldb t13 m 2 Ab 0 k z z z z z) fun a k=>sv k z (r_fa fa40_0 k z z) fun a k=>sT (cs':=[I a1.fWay,I 0,I 0,I 0,I 0,I 0,.slice none 0 0,.slice none 0 0,I 0,.slice none 0 0]) sizeOf3 m 0 Ax 0 k z z fun Bn a k e m Ay=>nn (wr (sv k z (r_fa fa28_1 k z z) fun a k=>sv k z (rL ta23 m 2 Ab 1 k z) fun a k=>oE h fun Aa At h=>cC k m call27 z (c_laws_toPallet fu (a1.fPallet:Pallet)  At) fun Bj e a k m=>sv k z (r_fa fa40_1 k z z) fun a k=>?_))
 refine sT (cs':=[I a1.fWay,I Aa.fW,I Aa.fD,I Aa.fH,I Aa.fGram,I 0,.slice none 0 0,.slice none 0 0,I 0,.slice none 0 0]) sizeOf35 m 0 Ay 1 k z z fun Bt a k e m Bb=>nn (wr (fl fa28_2 t13 m 2 Ab k z z fun a k=>sv k z (r_fa fa40_2 k z z) fun a k=>sT (cs':=[I a1.fWay,I Aa.fW,I Aa.fD,I Aa.fH,I Aa.fGram,I a1.fClasses,.slice none 0 0,.slice none 0 0,I 0,.slice none 0 0]) sizeOf3 m 0 Bb 5 k z z fun Cb a k e m Bh=>nn (wr (sv k z (r_fa fa28_3 k z z) fun a k=>?_))));refine sv k z (r_ldb t124 m 2 Ab 6 k z z z z z) fun a k=>oE h fun Bm Ar h=>sC k call28 z (c_laws_toPairS fu _ (m.r Ak) Ar) fun Bk Bu hR=>?_;obtain ⟨Af,Ah,rfl,e,Ac,Bc⟩:=hR;refine ⟨_,z,fun a k=>?_⟩;have m:=m.nw e Bc Ac;refine sv k z (r_fa fa40_3 k z z) fun a k=>s_stb1 (cs':=[I a1.fWay,I Aa.fW,I Aa.fD,I Aa.fH,I Aa.fGram,I a1.fClasses,Af,.slice none 0 0,I 0,.slice none 0 0]) sizeOf36 m 1 Bh 6 k (rd_c (Enc.ow_rd Ac)) (rd_o (Enc.ow_rd Ac)) z z z z z z z z z fun Bw a k e m Az=>nn (wr (fl fa28_4 t125 m 3 Ab k z z fun a k=>oE h fun Bo Bd h=>sC k call29 z (c_laws_toTypeS fu _ (m.r Ap) Bd) fun Bv Bl hR=>?_));obtain ⟨Ag,Aq,rfl,e,Ae,Bi⟩:=hR
 refine ⟨_,z,fun a k=>?_⟩;have m:=m.nw e Bi Ae;refine sv k z (r_fa fa40_4 k z z) fun a k=>s_stb1 (cs':=[I a1.fWay,I Aa.fW,I Aa.fD,I Aa.fH,I Aa.fGram,I a1.fClasses,Af,Ag,I 0,.slice none 0 0]) sizeOf37 m 2 Az 7 k (rd_c (Enc.ow_rd Ae)) (rd_o (Enc.ow_rd Ae)) z z z z z z z z z fun Cd a k e m Av=>nn (wr (fl fa28_5 t13 m 4 Ab k z z fun a k=>sv k z (r_fa fa40_5 k z z) fun a k=>sT (cs':=[I a1.fWay,I Aa.fW,I Aa.fD,I Aa.fH,I Aa.fGram,I a1.fClasses,Af,Ag,I a1.fMaster,.slice none 0 0]) sizeOf3 m 2 Av 8 k z z fun Cg a k e m Bg=>?_));have k:=k.keep [1,2,3] z;refine nn (wr (fl fa28_6 t126 m 4 Ab k z z fun a k=>oE h fun Bq Au h=>sC k call30 z (c_laws_toItemS fu _ (m.r Ao) Au) fun Bz By hR=>?_));obtain ⟨Al,Ai,rfl,e,Ad,Be⟩:=hR;refine ⟨_,z,fun a k=>?_⟩;have m:=m.nw e Be Ad;refine sv k z (r_fa fa40_6 k z z) fun a k=>s_stb1 (cs':=[I a1.fWay,I Aa.fW,I Aa.fD,I Aa.fH,I Aa.fGram,I a1.fClasses,Af,Ag,I a1.fMaster,Al]) sizeOf38 m 3 Bg 9 k (rd_c (Enc.ow_rd Ad)) (rd_o (Enc.ow_rd Ad)) z z z z z z z z z fun Br a k e m Aw=>nn (wr (sv k z (rL ta40 m 3 Aw 0 k z) fun a k=>?_))
 refine sT (cs':=[I a1.fWay,I Aa.fW,I Aa.fD,I Aa.fH,I Aa.fGram,I a1.fClasses,Af,Ag,I a1.fMaster,Al]) sizeOf40 m 4 Ba 0 k z (allc z (allc z (allc z (allc z (allc z (allc z (allc (rd_o (Enc.ow_rd Ac)) (allc (rd_o (Enc.ow_rd Ae)) (allc z (allc (rd_o (Enc.ow_rd Ad)) alln)))))))))) fun Ca a k e m As=>nn (wp_ret ?_);cases h;exact finR1 k z (RV.cA k z ta40 (As.at (m.a 4 z) 0 10 z z z) z) ⟨_,_,z,m.ext,⟨_,Ah,_,Aq,_,Ai,z,z,(m.v Ac 2 z),(m.v Ae 1 z),(m.v Ad 0 z),by simpa [fps] using (m.sl [2,1,0] z).nd⟩,(app_fresh (m.fresh 2 z) (app_fresh (m.fresh 1 z) (m.fresh 0 z)))⟩
theorem c_laws_toIntS (fu:Nat) {w0:World} (a1:List Int) {v2:Value} {F3:List Nat} (Ac:rd w0 F3 [v2] a1) {r:(List Int)}
    (h:d_laws_toIntS fu a1 = some r) :
    Calls Tryz.prog 31 #[v2] w0 fun e w=>∃ (v0:Value) (G0:List Nat),e = .returned (v0) ∧ Ext [] w0 w ∧ ow w G0 [v0] r ∧ (∀ b ∈ G0,w0.heap.size ≤ b):=by
 refine en (vs:=[_]) func31 z ntmps31 z fun a k m=>?_;unfold d_laws_toIntS at h;refine wr (pN 1 k z fun a k=>nn (wr (pN 1 k z fun a k=>sv k z (r_len (α:=Int) Ac k underlying29 z z) fun a k=>oE h fun x5 Ao h=>s_mk Ao te29 z z m k z z z z z z fun g7 w9 a Aq k m e Am=>pN 1 k z fun a k=>nn (wp_seq (wr (pN 1 k z fun a k=>nn (wp_block (c_loop (fun n a w=>∃ (Ae:List Int) (Ad:Value) (Aa:List Nat) (Af:World) (Ab:Int),K 22 [(0,v2),(3,Ad),(4,I Ab)] a ∧ St [] w0 w [(Aa,Af)] ∧ ow Af Aa [Ad] Ae ∧ d_laws_toIntS_L1 fu a1 n Ae Ab = some r) ?_ ?_ fu _ _ ?_))))))))
 · rintro a w ⟨_,_,_,_,_,_,_,_,h⟩;exact nS h
 · rintro As a Ar ⟨Ae,Ad,Aa,Af,Ab,k,m,Ag,h⟩;rw [d_laws_toIntS_L1.eq_2] at h;unfold d_laws_toIntS_L1_B at h;refine wp_seq (wr (pN 2 k z fun a k=>sv k z (r_len (α:=Int) Ac k underlying29 z z) fun a k=>pN 1 k z fun a k=>nn (cI h k z (fun Ap h=>?_) fun Ap h=>?_)))
   · refine wp_skip (nm_then ?_);refine wp_seq (wp_block (wp_region_lit (pN 4 k z fun a k=>oE h fun Ah Aj h=>sv k z (r_ixa Ac Aj k ts29 z z z) fun a k=>sv k z (r_lde1 Ac (m.a00 (Enc.rd_lt Ac)) Aj 0 t13 k z z z z) fun a k=>oE h fun At Ai h=>sv k z (r_ixa (Enc.ow_rd Ag) Ai k ts29 z z z) fun a k=>s_ste (α:=Int) (sz:=1) (y:=Ah) sizeOf3 Ai m 0 Ag 0 k z z z z z z z z z z z z fun Ak a k e m Al=>wpList_nil (nm_block (nm_then ?_)))));refine wp_region_lit (pN 3 k z fun a k=>nn ?_);exact ⟨setx Ae Ab Ah,Ad,Aa,Ak,w64 (Ab + 1),k.keep [0,3,4] z,m.sl [0] z,Al,h⟩
   refine wp_exit (ex_then (ex_then (ex_same (nm_then ?_))));refine wr (pN 2 k z fun a k=>nn (wp_ret ?_));cases h;exact finR1 k z (RV.tmp k z) ⟨_,Aa,z,m.ext,(m.v Ag 0 z),(m.fresh 0 z)⟩
 exact ⟨x5,Aq,[g7],w9,0,k.keep [0,3,4] z,m.sl [0] z,Am,h⟩
theorem c_laws_toCarton (fu:Nat) {w0:World} (a1:Carton) {Ad:List Value} {F3:List Nat} (Ap:rd w0 F3 Ad a1) {r:Carton}
    (h:d_laws_toCarton fu a1 = some r) :
    Calls Tryz.prog 9 #[.agg Ad.toArray] w0 fun e w=>∃ (Ac:List Value) (G0:List Nat),e = .returned (.agg Ac.toArray) ∧ Ext [] w0 w ∧ ow w G0 Ac r ∧ (∀ b ∈ G0,w0.heap.size ≤ b):=by
 refine en (vs:=[_]) func9 z ntmps9 z fun a k m=>?_;obtain ⟨v5,_,rfl,rfl,Ag⟩:=Ap;unfold d_laws_toCarton at h;refine wr (s_box (cs:=[I a1.fType,I a1.fGroup,v5]) m k z z z z z z fun b7 w9 a k m e Ab=>s_alloc (cs:=[I 0,I 0,.slice none 0 0]) m k zeroValue42 z z z z z fun Av Ba a k m e Ah=>nn (wr (s_alloc (cs:=[I 0,I 0,.slice none 0 0]) m k zeroValue42 z z z z z fun Az Aw a k m e Ao=>nn (wr (fl fa31_0 t13 m 2 Ab k z z fun a k=>sv k z (r_fa fa42_0 k z z) fun a k=>sT (cs':=[I a1.fType,I 0,.slice none 0 0]) sizeOf3 m 0 Ao 0 k z z fun At a k e m Ak=>nn (wr (fl fa31_1 t13 m 2 Ab k z z fun a k=>?_)))))));refine sv k z (r_fa fa42_1 k z z) fun a k=>sT (cs':=[I a1.fType,I a1.fGroup,.slice none 0 0]) sizeOf3 m 0 Ak 1 k z z fun Ar a k e m Aj=>nn (wr (fl fa31_2 t129 m 2 Ab k z z fun a k=>oE h fun Bb Al h=>sC k call31 z (c_laws_toIntS fu _ (m.r Ag) Al) fun Ax As hR=>?_));obtain ⟨Af,Ae,rfl,e,Aa,Am⟩:=hR;refine ⟨_,z,fun a k=>?_⟩;have m:=m.nw e Am Aa
 refine sv k z (r_fa fa42_2 k z z) fun a k=>s_stb1 (cs':=[I a1.fType,I a1.fGroup,Af]) sizeOf29 m 1 Aj 2 k (rd_c (Enc.ow_rd Aa)) (rd_o (Enc.ow_rd Aa)) z z z z z z z z z fun Au a k e m Ai=>nn (wr (sv k z (rL ta42 m 1 Ai 0 k z) fun a k=>sT (cs':=[I a1.fType,I a1.fGroup,Af]) sizeOf42 m 2 Ah 0 k z (allc z (allc z (allc (rd_o (Enc.ow_rd Aa)) alln))) fun Ay a k e m Aq=>nn (wp_ret ?_)));cases h;exact finR1 k z (RV.cA k z ta42 (Aq.at (m.a 2 z) 0 3 z z z) z) ⟨_,_,z,m.ext,⟨_,Ae,z,z,(m.v Aa 0 z),by simpa [fps] using (m.sl [0] z).nd⟩,(m.fresh 0 z)⟩
theorem c_laws_eqPallet (fu:Nat) {w0:World} (a1:Pallet) (b2:Pallet)  {r:Bool}
    (h:d_laws_eqPallet fu a1 b2 = some r) :
    Calls Tryz.prog 36 #[.agg (Flat.e (a1)).toArray,.agg (Flat.e (b2)).toArray] w0 fun e w=>e = .returned (.bool (r)) ∧ Ext [] w0 w:=by
 refine en (vs:=[_,_]) func36 z ntmps36 z fun a k m=>?_;unfold d_laws_eqPallet at h;refine wr (s_box (cs:=[I a1.fW,I a1.fD,I a1.fH,I a1.fGram]) m k z z z z z z fun b3 w5 a k m e Ab=>s_box (cs:=[I b2.fW,I b2.fD,I b2.fH,I b2.fGram]) m k z z z z z z fun b6 w9 a k m e Aa=>pN 1 k z fun a k=>nn (wp_seq (wr (fl fa35_0 t13 m 1 Ab k z z fun a k=>fl fa35_0 t13 m 0 Aa k z z fun a k=>pN 1 k z fun a k=>nn (cI h k z (fun Ae h=>?_) fun Ae h=>?_)))))
 · refine wr (pN 1 k z fun a k=>nn (wp_ret (rt_then ?_)));refine fS h k m z z
 refine wp_skip (nm_then ?_);refine wp_seq (wr (fl fa35_1 t13 m 1 Ab k z z fun a k=>fl fa35_1 t13 m 0 Aa k z z fun a k=>pN 1 k z fun a k=>nn (cI h k z (fun Ad h=>?_) fun Ad h=>?_)))
 · refine wr (pN 1 k z fun a k=>nn (wp_ret (rt_then ?_)));refine fS h k m z z
 refine wp_skip (nm_then ?_);refine wp_seq (wr (fl fa35_2 t13 m 1 Ab k z z fun a k=>fl fa35_2 t13 m 0 Aa k z z fun a k=>pN 1 k z fun a k=>nn (cI h k z (fun Af h=>?_) fun Af h=>?_)))
 · refine wr (pN 1 k z fun a k=>nn (wp_ret (rt_then ?_)));refine fS h k m z z
 refine wp_skip (nm_then ?_);refine wp_seq (wr (fl fa35_3 t13 m 1 Ab k z z fun a k=>fl fa35_3 t13 m 0 Aa k z z fun a k=>pN 1 k z fun a k=>nn (cI h k z (fun Ac h=>?_) fun Ac h=>?_)))
 · refine wr (pN 1 k z fun a k=>nn (wp_ret (rt_then ?_)));refine fS h k m z z
 refine wp_skip (nm_then ?_);refine wr (pN 1 k z fun a k=>nn (wp_ret (fS h k m z z)))
theorem c_laws_eqPair (fu:Nat) {w0:World} (a1:Pair) (b2:Pair)  {r:Bool}
    (h:d_laws_eqPair fu a1 b2 = some r) :
    Calls Tryz.prog 63 #[.agg (Flat.e (a1)).toArray,.agg (Flat.e (b2)).toArray] w0 fun e w=>e = .returned (.bool (r)) ∧ Ext [] w0 w:=by
 refine en (vs:=[_,_]) func63 z ntmps63 z fun a k m=>?_;unfold d_laws_eqPair at h;refine wr (s_box (cs:=[I a1.fA,I a1.fB]) m k z z z z z z fun b3 w5 a k m e Ab=>s_box (cs:=[I b2.fA,I b2.fB]) m k z z z z z z fun b6 w9 a k m e Aa=>pN 1 k z fun a k=>nn (wp_seq (wr (fl fa88_0 t13 m 1 Ab k z z fun a k=>fl fa88_0 t13 m 0 Aa k z z fun a k=>pN 1 k z fun a k=>nn (cI h k z (fun Ad h=>?_) fun Ad h=>?_)))))
 · refine wr (pN 1 k z fun a k=>nn (wp_ret (rt_then ?_)));refine fS h k m z z
 refine wp_skip (nm_then ?_);refine wp_seq (wr (fl fa88_1 t13 m 1 Ab k z z fun a k=>fl fa88_1 t13 m 0 Aa k z z fun a k=>pN 1 k z fun a k=>nn (cI h k z (fun Ac h=>?_) fun Ac h=>?_)))
 · refine wr (pN 1 k z fun a k=>nn (wp_ret (rt_then ?_)));refine fS h k m z z
 refine wp_skip (nm_then ?_);refine wr (pN 1 k z fun a k=>nn (wp_ret (fS h k m z z)))
theorem c_laws_eqPairS (fu:Nat) {w0:World} (a1:List Pair) (b5:List Pair) {v2:Value} {F3:List Nat} (Aa:rd w0 F3 [v2] a1) {v6:Value} {F7:List Nat} (Ab:rd w0 F7 [v6] b5) {r:Bool}
    (h:d_laws_eqPairS fu a1 b5 = some r) :
    Calls Tryz.prog 37 #[v2,v6] w0 fun e w=>e = .returned (.bool (r)) ∧ Ext [] w0 w:=by
 refine en (vs:=[_,_]) func37 z ntmps37 z fun a k m=>?_;unfold d_laws_eqPairS at h;refine wr (pN 1 k z fun a k=>nn (wp_seq (wr (pN 1 k z fun a k=>sv k z (r_len (α:=Pair) Aa k underlying36 z z) fun a k=>pN 1 k z fun a k=>sv k z (r_len (α:=Pair) Ab k underlying36 z z) fun a k=>pN 1 k z fun a k=>nn (cI h k z (fun Ai h=>?_) fun Ai h=>?_)))))
 · refine wr (pN 1 k z fun a k=>nn (wp_ret (rt_then ?_)));refine fS h k m z z
 refine wp_skip (nm_then ?_);refine wp_seq (wr (pN 1 k z fun a k=>nn (wp_block (c_loop (fun n a w=>∃ (Ac:Int),K 27 [(0,v2),(1,v6),(5,I Ac)] a ∧ St [] w0 w [] ∧ d_laws_eqPairS_L1 fu a1 b5 n Ac = some r) ?_ ?_ fu _ _ ?_))))
 · rintro a w ⟨_,_,_,h⟩;exact nS h
 · rintro Ao a Ap ⟨Ac,k,m,h⟩;rw [d_laws_eqPairS_L1.eq_2] at h;unfold d_laws_eqPairS_L1_B at h;refine wp_seq (wr (pN 2 k z fun a k=>sv k z (r_len (α:=Pair) Aa k underlying36 z z) fun a k=>pN 1 k z fun a k=>nn (cI h k z (fun Aj h=>?_) fun Aj h=>?_)))
   · refine wp_skip (nm_then ?_);refine wp_seq (wp_block (wp_seq (d_go [] mixo m z fun Ah hMd=>?_)));have m:=hMd;have s:=Ext.refl ([]:List Nat) Ah;refine dM [0,1,4,5] 4 z k z s fun a k=>oE h fun Ag Ad h=>dT k 2 z z s (fun w s=>r_ixa Aa Ad k ts36 z z z) fun a k=>dT k 3 z z s (fun w s=>r_lde Aa ((hMd.step s).a00 (Enc.rd_lt Aa)) Ad ta88 k z z) fun a k=>oE h fun Ak Ae h=>dT k 6 z z s (fun w s=>r_ixa Ab Ae k ts36 z z z) fun a k=>dT k 7 z z s (fun w s=>r_lde Ab ((hMd.step s).a00 (Enc.rd_lt Ab)) Ae ta88 k z z) fun a k=>dO 8 z (oE h fun Aq Al h=>cC k m call63 z (c_laws_eqPair fu (Ag:Pair) (Ak:Pair)  Al) fun Am e a k m=>?_);refine ns s e fun s=>?_;refine dM [9] 1 z k z s fun a k=>dD ((nm_then ?_));refine cI h k z (fun Af h=>?_) fun Af h=>?_
     · refine wr (pN 1 k z fun a k=>nn (wp_ret (rt_block (rt_then (rt_then (rt_block (rt_then ?_)))))));refine fS h k m z z
     refine wp_skip (nm_block (nm_then ?_));refine wp_region_lit (pN 3 k z fun a k=>nn ?_);exact ⟨w64 (Ac + 1),k.keep [0,1,5] z,m.sl [] z,h⟩
   refine wp_exit (ex_then (ex_then (ex_same (nm_then ?_))));refine wr (pN 1 k z fun a k=>nn (wp_ret (fS h k m z z)))
 exact ⟨0,k.keep [0,1,5] z,m.sl [] z,h⟩
theorem c_laws_eqType (fu:Nat) {w0:World} (a1:Typ) (b2:Typ)  {r:Bool}
    (h:d_laws_eqType fu a1 b2 = some r) :
    Calls Tryz.prog 64 #[.agg (Flat.e (a1)).toArray,.agg (Flat.e (b2)).toArray] w0 fun e w=>e = .returned (.bool (r)) ∧ Ext [] w0 w:=by
 refine en (vs:=[_,_]) func64 z ntmps64 z fun a k m=>?_;unfold d_laws_eqType at h;refine wr (s_box (cs:=[I a1.fId,I a1.fW,I a1.fH,I a1.fD,I a1.fTare,I a1.fGram,I a1.fCost]) m k z z z z z z fun b3 w5 a k m e Ab=>s_box (cs:=[I b2.fId,I b2.fW,I b2.fH,I b2.fD,I b2.fTare,I b2.fGram,I b2.fCost]) m k z z z z z z fun b6 w9 a k m e Aa=>pN 1 k z fun a k=>nn (wp_seq (wr (fl fa58_0 t13 m 1 Ab k z z fun a k=>fl fa58_0 t13 m 0 Aa k z z fun a k=>pN 1 k z fun a k=>nn (cI h k z (fun Ag h=>?_) fun Ag h=>?_)))))
 · refine wr (pN 1 k z fun a k=>nn (wp_ret (rt_then ?_)));refine fS h k m z z
 refine wp_skip (nm_then ?_);refine wp_seq (wr (fl fa58_1 t13 m 1 Ab k z z fun a k=>fl fa58_1 t13 m 0 Aa k z z fun a k=>pN 1 k z fun a k=>nn (cI h k z (fun Af h=>?_) fun Af h=>?_)))
 · refine wr (pN 1 k z fun a k=>nn (wp_ret (rt_then ?_)));refine fS h k m z z
 refine wp_skip (nm_then ?_);refine wp_seq (wr (fl fa58_2 t13 m 1 Ab k z z fun a k=>fl fa58_2 t13 m 0 Aa k z z fun a k=>pN 1 k z fun a k=>nn (cI h k z (fun Ai h=>?_) fun Ai h=>?_)))
 · refine wr (pN 1 k z fun a k=>nn (wp_ret (rt_then ?_)));refine fS h k m z z
 refine wp_skip (nm_then ?_);refine wp_seq (wr (fl fa58_3 t13 m 1 Ab k z z fun a k=>fl fa58_3 t13 m 0 Aa k z z fun a k=>pN 1 k z fun a k=>nn (cI h k z (fun Ae h=>?_) fun Ae h=>?_)))
 · refine wr (pN 1 k z fun a k=>nn (wp_ret (rt_then ?_)));refine fS h k m z z
 refine wp_skip (nm_then ?_);refine wp_seq (wr (fl fa58_4 t13 m 1 Ab k z z fun a k=>fl fa58_4 t13 m 0 Aa k z z fun a k=>pN 1 k z fun a k=>?_));have k:=k.keep [2,3,29] z;refine nn (cI h k z (fun Ac h=>?_) fun Ac h=>?_)
 · refine wr (pN 1 k z fun a k=>nn (wp_ret (rt_then ?_)));refine fS h k m z z
 refine wp_skip (nm_then ?_);refine wp_seq (wr (fl fa58_5 t13 m 1 Ab k z z fun a k=>fl fa58_5 t13 m 0 Aa k z z fun a k=>pN 1 k z fun a k=>nn (cI h k z (fun Ad h=>?_) fun Ad h=>?_)))
 · refine wr (pN 1 k z fun a k=>nn (wp_ret (rt_then ?_)));refine fS h k m z z
 refine wp_skip (nm_then ?_);refine wp_seq (wr (fl fa58_6 t13 m 1 Ab k z z fun a k=>fl fa58_6 t13 m 0 Aa k z z fun a k=>pN 1 k z fun a k=>nn (cI h k z (fun Ah h=>?_) fun Ah h=>?_)))
 · refine wr (pN 1 k z fun a k=>nn (wp_ret (rt_then ?_)));refine fS h k m z z
 refine wp_skip (nm_then ?_);refine wr (pN 1 k z fun a k=>nn (wp_ret (fS h k m z z)))
theorem c_laws_eqTypeS (fu:Nat) {w0:World} (a1:List Typ) (b5:List Typ) {v2:Value} {F3:List Nat} (Aa:rd w0 F3 [v2] a1) {v6:Value} {F7:List Nat} (Ab:rd w0 F7 [v6] b5) {r:Bool}
    (h:d_laws_eqTypeS fu a1 b5 = some r) :
    Calls Tryz.prog 38 #[v2,v6] w0 fun e w=>e = .returned (.bool (r)) ∧ Ext [] w0 w:=by
 refine en (vs:=[_,_]) func38 z ntmps38 z fun a k m=>?_;unfold d_laws_eqTypeS at h;refine wr (pN 1 k z fun a k=>nn (wp_seq (wr (pN 1 k z fun a k=>sv k z (r_len (α:=Typ) Aa k underlying37 z z) fun a k=>pN 1 k z fun a k=>sv k z (r_len (α:=Typ) Ab k underlying37 z z) fun a k=>pN 1 k z fun a k=>nn (cI h k z (fun Ai h=>?_) fun Ai h=>?_)))))
 · refine wr (pN 1 k z fun a k=>nn (wp_ret (rt_then ?_)));refine fS h k m z z
 refine wp_skip (nm_then ?_);refine wp_seq (wr (pN 1 k z fun a k=>nn (wp_block (c_loop (fun n a w=>∃ (Ac:Int),K 27 [(0,v2),(1,v6),(5,I Ac)] a ∧ St [] w0 w [] ∧ d_laws_eqTypeS_L1 fu a1 b5 n Ac = some r) ?_ ?_ fu _ _ ?_))))
 · rintro a w ⟨_,_,_,h⟩;exact nS h
 · rintro Ao a Ap ⟨Ac,k,m,h⟩;rw [d_laws_eqTypeS_L1.eq_2] at h;unfold d_laws_eqTypeS_L1_B at h;refine wp_seq (wr (pN 2 k z fun a k=>sv k z (r_len (α:=Typ) Aa k underlying37 z z) fun a k=>pN 1 k z fun a k=>nn (cI h k z (fun Aj h=>?_) fun Aj h=>?_)))
   · refine wp_skip (nm_then ?_);refine wp_seq (wp_block (wp_seq (d_go [] mixo m z fun Ah hMd=>?_)));have m:=hMd;have s:=Ext.refl ([]:List Nat) Ah;refine dM [0,1,4,5] 4 z k z s fun a k=>oE h fun Ag Ad h=>dT k 2 z z s (fun w s=>r_ixa Aa Ad k ts37 z z z) fun a k=>dT k 3 z z s (fun w s=>r_lde Aa ((hMd.step s).a00 (Enc.rd_lt Aa)) Ad ta58 k z z) fun a k=>oE h fun Ak Ae h=>dT k 6 z z s (fun w s=>r_ixa Ab Ae k ts37 z z z) fun a k=>dT k 7 z z s (fun w s=>r_lde Ab ((hMd.step s).a00 (Enc.rd_lt Ab)) Ae ta58 k z z) fun a k=>dO 8 z (oE h fun Aq Al h=>cC k m call64 z (c_laws_eqType fu (Ag:Typ) (Ak:Typ)  Al) fun Am e a k m=>?_);refine ns s e fun s=>?_;refine dM [9] 1 z k z s fun a k=>dD ((nm_then ?_));refine cI h k z (fun Af h=>?_) fun Af h=>?_
     · refine wr (pN 1 k z fun a k=>nn (wp_ret (rt_block (rt_then (rt_then (rt_block (rt_then ?_)))))));refine fS h k m z z
     refine wp_skip (nm_block (nm_then ?_));refine wp_region_lit (pN 3 k z fun a k=>nn ?_);exact ⟨w64 (Ac + 1),k.keep [0,1,5] z,m.sl [] z,h⟩
   refine wp_exit (ex_then (ex_then (ex_same (nm_then ?_))));refine wr (pN 1 k z fun a k=>nn (wp_ret (fS h k m z z)))
 exact ⟨0,k.keep [0,1,5] z,m.sl [] z,h⟩
theorem c_laws_eqItem (fu:Nat) {w0:World} (a1:Item) (b2:Item)  {r:Bool}
    (h:d_laws_eqItem fu a1 b2 = some r) :
    Calls Tryz.prog 65 #[.agg (Flat.e (a1)).toArray,.agg (Flat.e (b2)).toArray] w0 fun e w=>e = .returned (.bool (r)) ∧ Ext [] w0 w:=by
 refine en (vs:=[_,_]) func65 z ntmps65 z fun a k m=>?_;unfold d_laws_eqItem at h;refine wr (s_box (cs:=[I a1.fId,I a1.fW,I a1.fH,I a1.fD,I a1.fGram,I a1.fClass,I a1.fCount]) m k z z z z z z fun b3 w5 a k m e Ab=>s_box (cs:=[I b2.fId,I b2.fW,I b2.fH,I b2.fD,I b2.fGram,I b2.fClass,I b2.fCount]) m k z z z z z z fun b6 w9 a k m e Aa=>pN 1 k z fun a k=>nn (wp_seq (wr (fl fa83_0 t13 m 1 Ab k z z fun a k=>fl fa83_0 t13 m 0 Aa k z z fun a k=>pN 1 k z fun a k=>nn (cI h k z (fun Ag h=>?_) fun Ag h=>?_)))))
 · refine wr (pN 1 k z fun a k=>nn (wp_ret (rt_then ?_)));refine fS h k m z z
 refine wp_skip (nm_then ?_);refine wp_seq (wr (fl fa83_1 t13 m 1 Ab k z z fun a k=>fl fa83_1 t13 m 0 Aa k z z fun a k=>pN 1 k z fun a k=>nn (cI h k z (fun Af h=>?_) fun Af h=>?_)))
 · refine wr (pN 1 k z fun a k=>nn (wp_ret (rt_then ?_)));refine fS h k m z z
 refine wp_skip (nm_then ?_);refine wp_seq (wr (fl fa83_2 t13 m 1 Ab k z z fun a k=>fl fa83_2 t13 m 0 Aa k z z fun a k=>pN 1 k z fun a k=>nn (cI h k z (fun Ai h=>?_) fun Ai h=>?_)))
 · refine wr (pN 1 k z fun a k=>nn (wp_ret (rt_then ?_)));refine fS h k m z z
 refine wp_skip (nm_then ?_);refine wp_seq (wr (fl fa83_3 t13 m 1 Ab k z z fun a k=>fl fa83_3 t13 m 0 Aa k z z fun a k=>pN 1 k z fun a k=>nn (cI h k z (fun Ae h=>?_) fun Ae h=>?_)))
 · refine wr (pN 1 k z fun a k=>nn (wp_ret (rt_then ?_)));refine fS h k m z z
 refine wp_skip (nm_then ?_);refine wp_seq (wr (fl fa83_4 t13 m 1 Ab k z z fun a k=>fl fa83_4 t13 m 0 Aa k z z fun a k=>pN 1 k z fun a k=>?_));have k:=k.keep [2,3,29] z;refine nn (cI h k z (fun Ac h=>?_) fun Ac h=>?_)
 · refine wr (pN 1 k z fun a k=>nn (wp_ret (rt_then ?_)));refine fS h k m z z
 refine wp_skip (nm_then ?_);refine wp_seq (wr (fl fa83_5 t13 m 1 Ab k z z fun a k=>fl fa83_5 t13 m 0 Aa k z z fun a k=>pN 1 k z fun a k=>nn (cI h k z (fun Ad h=>?_) fun Ad h=>?_)))
 · refine wr (pN 1 k z fun a k=>nn (wp_ret (rt_then ?_)));refine fS h k m z z
 refine wp_skip (nm_then ?_);refine wp_seq (wr (fl fa83_6 t13 m 1 Ab k z z fun a k=>fl fa83_6 t13 m 0 Aa k z z fun a k=>pN 1 k z fun a k=>nn (cI h k z (fun Ah h=>?_) fun Ah h=>?_)))
 · refine wr (pN 1 k z fun a k=>nn (wp_ret (rt_then ?_)));refine fS h k m z z
 refine wp_skip (nm_then ?_);refine wr (pN 1 k z fun a k=>nn (wp_ret (fS h k m z z)))
theorem c_laws_eqItemS (fu:Nat) {w0:World} (a1:List Item) (b5:List Item) {v2:Value} {F3:List Nat} (Aa:rd w0 F3 [v2] a1) {v6:Value} {F7:List Nat} (Ab:rd w0 F7 [v6] b5) {r:Bool}
    (h:d_laws_eqItemS fu a1 b5 = some r) :
    Calls Tryz.prog 39 #[v2,v6] w0 fun e w=>e = .returned (.bool (r)) ∧ Ext [] w0 w:=by
 refine en (vs:=[_,_]) func39 z ntmps39 z fun a k m=>?_;unfold d_laws_eqItemS at h;refine wr (pN 1 k z fun a k=>nn (wp_seq (wr (pN 1 k z fun a k=>sv k z (r_len (α:=Item) Aa k underlying38 z z) fun a k=>pN 1 k z fun a k=>sv k z (r_len (α:=Item) Ab k underlying38 z z) fun a k=>pN 1 k z fun a k=>nn (cI h k z (fun Ai h=>?_) fun Ai h=>?_)))))
 · refine wr (pN 1 k z fun a k=>nn (wp_ret (rt_then ?_)));refine fS h k m z z
 refine wp_skip (nm_then ?_);refine wp_seq (wr (pN 1 k z fun a k=>nn (wp_block (c_loop (fun n a w=>∃ (Ac:Int),K 27 [(0,v2),(1,v6),(5,I Ac)] a ∧ St [] w0 w [] ∧ d_laws_eqItemS_L1 fu a1 b5 n Ac = some r) ?_ ?_ fu _ _ ?_))))
 · rintro a w ⟨_,_,_,h⟩;exact nS h
 · rintro Ao a Ap ⟨Ac,k,m,h⟩;rw [d_laws_eqItemS_L1.eq_2] at h;unfold d_laws_eqItemS_L1_B at h;refine wp_seq (wr (pN 2 k z fun a k=>sv k z (r_len (α:=Item) Aa k underlying38 z z) fun a k=>pN 1 k z fun a k=>nn (cI h k z (fun Aj h=>?_) fun Aj h=>?_)))
   · refine wp_skip (nm_then ?_);refine wp_seq (wp_block (wp_seq (d_go [] mixo m z fun Ah hMd=>?_)));have m:=hMd;have s:=Ext.refl ([]:List Nat) Ah;refine dM [0,1,4,5] 4 z k z s fun a k=>oE h fun Ag Ad h=>dT k 2 z z s (fun w s=>r_ixa Aa Ad k ts38 z z z) fun a k=>dT k 3 z z s (fun w s=>r_lde Aa ((hMd.step s).a00 (Enc.rd_lt Aa)) Ad ta83 k z z) fun a k=>oE h fun Ak Ae h=>dT k 6 z z s (fun w s=>r_ixa Ab Ae k ts38 z z z) fun a k=>dT k 7 z z s (fun w s=>r_lde Ab ((hMd.step s).a00 (Enc.rd_lt Ab)) Ae ta83 k z z) fun a k=>dO 8 z (oE h fun Aq Al h=>cC k m call65 z (c_laws_eqItem fu (Ag:Item) (Ak:Item)  Al) fun Am e a k m=>?_);refine ns s e fun s=>?_;refine dM [9] 1 z k z s fun a k=>dD ((nm_then ?_));refine cI h k z (fun Af h=>?_) fun Af h=>?_
     · refine wr (pN 1 k z fun a k=>nn (wp_ret (rt_block (rt_then (rt_then (rt_block (rt_then ?_)))))));refine fS h k m z z
     refine wp_skip (nm_block (nm_then ?_));refine wp_region_lit (pN 3 k z fun a k=>nn ?_);exact ⟨w64 (Ac + 1),k.keep [0,1,5] z,m.sl [] z,h⟩
   refine wp_exit (ex_then (ex_then (ex_same (nm_then ?_))));refine wr (pN 1 k z fun a k=>nn (wp_ret (fS h k m z z)))
 exact ⟨0,k.keep [0,1,5] z,m.sl [] z,h⟩
theorem c_laws_eqRequest (fu:Nat) {w0:World} (a1:Request) (b5:Request) {Ah:List Value} {F3:List Nat} (Ay:rd w0 F3 Ah a1) {Af:List Value} {F7:List Nat} (Bb:rd w0 F7 Af b5) {r:Bool}
    (h:d_laws_eqRequest fu a1 b5 = some r) :
    Calls Tryz.prog 11 #[.agg Ah.toArray,.agg Af.toArray] w0 fun e w=>e = .returned (.bool (r)) ∧ Ext [] w0 w:=by
 refine en (vs:=[_,_]) func11 z ntmps11 z fun a k m=>?_;obtain ⟨v9,Br,Ba,Bk,Av,Bi,rfl,rfl,Ag,Ad,Ai⟩:=Ay;obtain ⟨At,Bo,Bc,Bq,Ao,Bf,rfl,rfl,Ae,Ac,Aj⟩:=Bb;unfold d_laws_eqRequest at h;refine wr (s_box (cs:=(cR a1 v9 Ba Av)) m k z z z z z z fun Be Bd a k m e Aa=>s_box (cs:=(cR b5 At Bc Ao)) m k z z z z z z fun Bn Bg a k m e Ab=>pN 1 k z fun a k=>nn (wp_seq (wr (fl fa40_0 t13 m 1 Aa k z z fun a k=>fl fa40_0 t13 m 0 Ab k z z fun a k=>pN 1 k z fun a k=>nn ?_))));refine cI h k z (fun Ax h=>?_) fun Ax h=>?_
 · refine wr (pN 1 k z fun a k=>nn (wp_ret (rt_then ?_)));refine fS h k m z z
 refine wp_skip (nm_then ?_);refine wp_seq (wr (sv k z (r_fa fa40_1 k z z) fun a k=>sv k z (rL ta35 m 1 Aa 1 k z) fun a k=>sv k z (r_fa fa40_1 k z z) fun a k=>sv k z (rL ta35 m 0 Ab 1 k z) fun a k=>oE h fun Bl Ar h=>cC k m call36 z (c_laws_eqPallet fu (a1.fPallet:Pallet) (b5.fPallet:Pallet)  Ar) fun Bj e a k m=>pN 1 k z fun a k=>nn (cI h k z (fun Az h=>?_) fun Az h=>?_)))
 · refine wr (pN 1 k z fun a k=>nn (wp_ret (rt_then ?_)));refine fS h k m z z
 refine wp_skip (nm_then ?_);refine wp_seq (wr (fl fa40_2 t13 m 1 Aa k z z fun a k=>fl fa40_2 t13 m 0 Ab k z z fun a k=>pN 1 k z fun a k=>nn (cI h k z (fun Ap h=>?_) fun Ap h=>?_)))
 · refine wr (pN 1 k z fun a k=>nn (wp_ret (rt_then ?_)));refine fS h k m z z
 refine wp_skip (nm_then ?_);refine wp_seq (wr (fl fa40_3 t136 m 1 Aa k z z fun a k=>fl fa40_3 t136 m 0 Ab k z z fun a k=>oE h fun Bs Ak h=>cC k m call37 z (c_laws_eqPairS fu _ _ (m.r Ag) (m.r Ae) Ak) fun Bp e a k m=>pN 1 k z fun a k=>?_));have k:=k.keep [2,3,26] z;refine nn (cI h k z (fun Am h=>?_) fun Am h=>?_)
 · refine wr (pN 1 k z fun a k=>nn (wp_ret (rt_then ?_)));refine fS h k m z z
 refine wp_skip (nm_then ?_);refine wp_seq (wr (fl fa40_4 t137 m 1 Aa k z z fun a k=>fl fa40_4 t137 m 0 Ab k z z fun a k=>oE h fun Bt Aw h=>cC k m call38 z (c_laws_eqTypeS fu _ _ (m.r Ad) (m.r Ac) Aw) fun Bm e a k m=>pN 1 k z fun a k=>nn (cI h k z (fun Al h=>?_) fun Al h=>?_)))
 · refine wr (pN 1 k z fun a k=>nn (wp_ret (rt_then ?_)));refine fS h k m z z
 refine wp_skip (nm_then ?_);refine wp_seq (wr (fl fa40_5 t13 m 1 Aa k z z fun a k=>fl fa40_5 t13 m 0 Ab k z z fun a k=>pN 1 k z fun a k=>nn (cI h k z (fun Aq h=>?_) fun Aq h=>?_)))
 · refine wr (pN 1 k z fun a k=>nn (wp_ret (rt_then ?_)));refine fS h k m z z
 refine wp_skip (nm_then ?_);refine wp_seq (wr (fl fa40_6 t138 m 1 Aa k z z fun a k=>fl fa40_6 t138 m 0 Ab k z z fun a k=>oE h fun Bu As h=>cC k m call39 z (c_laws_eqItemS fu _ _ (m.r Ai) (m.r Aj) As) fun Bh e a k m=>pN 1 k z fun a k=>nn (cI h k z (fun Au h=>?_) fun Au h=>?_)))
 · refine wr (pN 1 k z fun a k=>nn (wp_ret (rt_then ?_)));refine fS h k m z z
 refine wp_skip (nm_then ?_);refine wr (pN 1 k z fun a k=>nn (wp_ret (fS h k m z z)))
theorem c_laws_eqIntS (fu:Nat) {w0:World} (a1:List Int) (b5:List Int) {v2:Value} {F3:List Nat} (Aa:rd w0 F3 [v2] a1) {v6:Value} {F7:List Nat} (Ac:rd w0 F7 [v6] b5) {r:Bool}
    (h:d_laws_eqIntS fu a1 b5 = some r) :
    Calls Tryz.prog 40 #[v2,v6] w0 fun e w=>e = .returned (.bool (r)) ∧ Ext [] w0 w:=by
 refine en (vs:=[_,_]) func40 z ntmps40 z fun a k m=>?_;unfold d_laws_eqIntS at h;refine wr (pN 1 k z fun a k=>nn (wp_seq (wr (pN 1 k z fun a k=>sv k z (r_len (α:=Int) Aa k underlying29 z z) fun a k=>pN 1 k z fun a k=>sv k z (r_len (α:=Int) Ac k underlying29 z z) fun a k=>pN 1 k z fun a k=>nn (cI h k z (fun Ah h=>?_) fun Ah h=>?_)))))
 · refine wr (pN 1 k z fun a k=>nn (wp_ret (rt_then ?_)));refine fS h k m z z
 refine wp_skip (nm_then ?_);refine wp_seq (wr (pN 1 k z fun a k=>nn (wp_block (c_loop (fun n a w=>∃ (Ab:Int),K 26 [(0,v2),(1,v6),(5,I Ab)] a ∧ St [] w0 w [] ∧ d_laws_eqIntS_L1 fu a1 b5 n Ab = some r) ?_ ?_ fu _ _ ?_))))
 · rintro a w ⟨_,_,_,h⟩;exact nS h
 · rintro Aj a Ak ⟨Ab,k,m,h⟩;rw [d_laws_eqIntS_L1.eq_2] at h;unfold d_laws_eqIntS_L1_B at h;refine wp_seq (wr (pN 2 k z fun a k=>sv k z (r_len (α:=Int) Aa k underlying29 z z) fun a k=>pN 1 k z fun a k=>nn (cI h k z (fun Af h=>?_) fun Af h=>?_)))
   · refine wp_skip (nm_then ?_);refine wp_seq (wp_block (wp_seq (d_go [] mixo m z fun Ag hMd=>?_)));have m:=hMd;have s:=Ext.refl ([]:List Nat) Ag;refine dM [0,1,4,5] 4 z k z s fun a k=>oE h fun Al Ad h=>dT k 2 z z s (fun w s=>r_ixa Aa Ad k ts29 z z z) fun a k=>dT k 3 z z s (fun w s=>r_lde1 Aa ((hMd.step s).a00 (Enc.rd_lt Aa)) Ad 0 t13 k z z z z) fun a k=>oE h fun Am Ae h=>dT k 6 z z s (fun w s=>r_ixa Ac Ae k ts29 z z z) fun a k=>dT k 7 z z s (fun w s=>r_lde1 Ac ((hMd.step s).a00 (Enc.rd_lt Ac)) Ae 0 t13 k z z z z) fun a k=>dM [8] 1 z k z s fun a k=>dD ((nm_then ?_));refine cI h k z (fun Ai h=>?_) fun Ai h=>?_
     · refine wr (pN 1 k z fun a k=>nn (wp_ret (rt_block (rt_then (rt_then (rt_block (rt_then ?_)))))));refine fS h k m z z
     refine wp_skip (nm_block (nm_then ?_));refine wp_region_lit (pN 3 k z fun a k=>nn ?_);exact ⟨w64 (Ab + 1),k.keep [0,1,5] z,m.sl [] z,h⟩
   refine wp_exit (ex_then (ex_then (ex_same (nm_then ?_))));refine wr (pN 1 k z fun a k=>nn (wp_ret (fS h k m z z)))
 exact ⟨0,k.keep [0,1,5] z,m.sl [] z,h⟩
theorem c_laws_eqCarton (fu:Nat) {w0:World} (a1:Carton) (b5:Carton) {Ae:List Value} {F3:List Nat} (Ak:rd w0 F3 Ae a1) {Ac:List Value} {F7:List Nat} (Al:rd w0 F7 Ac b5) {r:Bool}
    (h:d_laws_eqCarton fu a1 b5 = some r) :
    Calls Tryz.prog 12 #[.agg Ae.toArray,.agg Ac.toArray] w0 fun e w=>e = .returned (.bool (r)) ∧ Ext [] w0 w:=by
 refine en (vs:=[_,_]) func12 z ntmps12 z fun a k m=>?_;obtain ⟨v9,_,rfl,rfl,Ad⟩:=Ak;obtain ⟨Am,_,rfl,rfl,Af⟩:=Al;unfold d_laws_eqCarton at h;refine wr (s_box (cs:=[I a1.fType,I a1.fGroup,v9]) m k z z z z z z fun As Ar a k m e Ab=>s_box (cs:=[I b5.fType,I b5.fGroup,Am]) m k z z z z z z fun At Ap a k m e Aa=>pN 1 k z fun a k=>nn (wp_seq (wr (fl fa42_0 t13 m 1 Ab k z z fun a k=>fl fa42_0 t13 m 0 Aa k z z fun a k=>pN 1 k z fun a k=>nn (cI h k z (fun Ai h=>?_) fun Ai h=>?_)))))
 · refine wr (pN 1 k z fun a k=>nn (wp_ret (rt_then ?_)));refine fS h k m z z
 refine wp_skip (nm_then ?_);refine wp_seq (wr (fl fa42_1 t13 m 1 Ab k z z fun a k=>fl fa42_1 t13 m 0 Aa k z z fun a k=>pN 1 k z fun a k=>nn (cI h k z (fun Aj h=>?_) fun Aj h=>?_)))
 · refine wr (pN 1 k z fun a k=>nn (wp_ret (rt_then ?_)));refine fS h k m z z
 refine wp_skip (nm_then ?_);refine wp_seq (wr (fl fa42_2 t129 m 1 Ab k z z fun a k=>fl fa42_2 t129 m 0 Aa k z z fun a k=>oE h fun Aq Ah h=>cC k m call40 z (c_laws_eqIntS fu _ _ (m.r Ad) (m.r Af) Ah) fun Ao e a k m=>pN 1 k z fun a k=>nn (cI h k z (fun Ag h=>?_) fun Ag h=>?_)))
 · refine wr (pN 1 k z fun a k=>nn (wp_ret (rt_then ?_)));refine fS h k m z z
 refine wp_skip (nm_then ?_);refine wr (pN 1 k z fun a k=>nn (wp_ret (fS h k m z z)))

end Go.Proofs.YtcboeijpplllfaaGreat
