/- FnExactFeasible: the walks of functions that it reaches (ExactFeasibleBWl,part 1). Printed by gen.py. -/
import Derived.Test.YtkkfmjpbiimkbaaGreatExactFeasibleBT
set_option maxRecDepth 20000
set_option linter.unusedSimpArgs false
set_option linter.unusedVariables false
namespace Go.Proofs.YtkkfmjpbiimkbaaGreat
open Go Go.RowKit
open Enc (rd ow)
open Arg (argv)
open Ret (retv)
open Go.Proofs.Tryz


theorem c_laws_szPairS (fu:Nat) {w0:World} (a1:List Pair) (Aa:Int) {v2:Value} {F3:List Nat} (Ab:rd w0 F3 [v2] a1) {r:Int}
    (h:d_laws_szPairS fu a1 Aa = some r) :
    Calls Tryz.prog 77 #[v2,I Aa] w0 fun e w=>e = .returned (I r) ∧ Ext [] w0 w:=by
 refine enter (vs:=[_,_]) func77 z ntmps77 z fun a k=>?_
 have m:=St.start w0
 unfold d_laws_szPairS at h
 refine wr (pN 1 k z fun a k=>nn (wr (pN 2 k z fun a k=>sv k z (r_len (α:=Pair) Ab k underlying24 z z) fun a k=>pN 2 k z fun a k=>nn (wp_seq (wr (pN 2 k z fun a k=>nn (cI h k z (fun Ac h=>?_) fun Ac h=>?_)))))))
 · refine wr (pN 1 k z fun a k=>nn (wp_ret (rt_then ?_)))
   refine fS h k m z z
 refine wp_skip (nm_then ?_)
 refine wr (pN 2 k z fun a k=>nn (wp_ret (fS h k m z z)))
theorem c_laws_szTypeS (fu:Nat) {w0:World} (a1:List Typ) (Aa:Int) {v2:Value} {F3:List Nat} (Ab:rd w0 F3 [v2] a1) {r:Int}
    (h:d_laws_szTypeS fu a1 Aa = some r) :
    Calls Tryz.prog 78 #[v2,I Aa] w0 fun e w=>e = .returned (I r) ∧ Ext [] w0 w:=by
 refine enter (vs:=[_,_]) func78 z ntmps78 z fun a k=>?_
 have m:=St.start w0
 unfold d_laws_szTypeS at h
 refine wr (pN 1 k z fun a k=>nn (wr (pN 2 k z fun a k=>sv k z (r_len (α:=Typ) Ab k underlying25 z z) fun a k=>pN 2 k z fun a k=>nn (wp_seq (wr (pN 2 k z fun a k=>nn (cI h k z (fun Ac h=>?_) fun Ac h=>?_)))))))
 · refine wr (pN 1 k z fun a k=>nn (wp_ret (rt_then ?_)))
   refine fS h k m z z
 refine wp_skip (nm_then ?_)
 refine wr (pN 2 k z fun a k=>nn (wp_ret (fS h k m z z)))
theorem c_laws_szItemS (fu:Nat) {w0:World} (a1:List Item) (Aa:Int) {v2:Value} {F3:List Nat} (Ab:rd w0 F3 [v2] a1) {r:Int}
    (h:d_laws_szItemS fu a1 Aa = some r) :
    Calls Tryz.prog 79 #[v2,I Aa] w0 fun e w=>e = .returned (I r) ∧ Ext [] w0 w:=by
 refine enter (vs:=[_,_]) func79 z ntmps79 z fun a k=>?_
 have m:=St.start w0
 unfold d_laws_szItemS at h
 refine wr (pN 1 k z fun a k=>nn (wr (pN 2 k z fun a k=>sv k z (r_len (α:=Item) Ab k underlying26 z z) fun a k=>pN 2 k z fun a k=>nn (wp_seq (wr (pN 2 k z fun a k=>nn (cI h k z (fun Ac h=>?_) fun Ac h=>?_)))))))
 · refine wr (pN 1 k z fun a k=>nn (wp_ret (rt_then ?_)))
   refine fS h k m z z
 refine wp_skip (nm_then ?_)
 refine wr (pN 2 k z fun a k=>nn (wp_ret (fS h k m z z)))
theorem c_laws_szRequest (fu:Nat) {w0:World} (a1:Request) (Ad:Int) {Af:List Value} {F3:List Nat} (Ao:rd w0 F3 Af a1) {r:Int}
    (h:d_laws_szRequest fu a1 Ad = some r) :
    Calls Tryz.prog 15 #[.agg Af.toArray,I Ad] w0 fun e w=>e = .returned (I r) ∧ Ext [] w0 w:=by
 refine enter (vs:=[_,_]) func15 z ntmps15 z fun a k=>?_
 have m:=St.start w0
 obtain ⟨v6,F7,v8,F9,Ak,Aw,rfl,rfl,Ab,Ae,Ac⟩:=Ao
 unfold d_laws_szRequest at h
 refine wr (s_box (cs:=[I a1.fWay,I a1.fPallet.fW,I a1.fPallet.fD,I a1.fPallet.fH,I a1.fPallet.fGram,I a1.fClasses,v6,v8,I a1.fMaster,Ak]) m k z z z z z z fun Au Ar a k m e Aa=>pN 1 k z fun a k=>nn (wr (sv k z (r_fa fa28_3 k z z) fun a k=>sv k z (r_ldb t124 m 0 Aa 6 k z z z z z) fun a k=>pN 1 k z fun a k=>oE h fun Aq Ag h=>cE k m call77 z z z (c_laws_szPairS fu _ _ (Enc.rd_agr Ab (m.a00 (Enc.rd_lt Ab))) Ag) fun At e a k m=>pN 1 k z fun a k=>nn (wp_seq (wr (pN 2 k z fun a k=>nn (cI h k z (fun Ah h=>?_) fun Ah h=>?_)))))))
 · refine wr (pN 1 k z fun a k=>nn (wp_ret (rt_then ?_)))
   refine fS h k m z z
 refine wp_skip (nm_then ?_)
 refine wr (sv k z (r_fa fa28_4 k z z) fun a k=>sv k z (r_ldb t125 m 0 Aa 7 k z z z z z) fun a k=>pN 1 k z fun a k=>oE h fun Av Al h=>cE k m call78 z z z (c_laws_szTypeS fu _ _ (Enc.rd_agr Ae (m.a00 (Enc.rd_lt Ae))) Al) fun Ap e a k m=>pN 1 k z fun a k=>nn (wp_seq (wr (pN 2 k z fun a k=>nn (cI h k z (fun Am h=>?_) fun Am h=>?_)))))
 · refine wr (pN 1 k z fun a k=>nn (wp_ret (rt_then ?_)))
   refine fS h k m z z
 refine wp_skip (nm_then ?_)
 refine wr (sv k z (r_fa fa28_6 k z z) fun a k=>sv k z (r_ldb t126 m 0 Aa 9 k z z z z z) fun a k=>pN 1 k z fun a k=>oE h fun Ax Aj h=>cE k m call79 z z z (c_laws_szItemS fu _ _ (Enc.rd_agr Ac (m.a00 (Enc.rd_lt Ac))) Aj) fun As e a k m=>pN 1 k z fun a k=>nn (wp_seq (wr (pN 2 k z fun a k=>nn (cI h k z (fun Ai h=>?_) fun Ai h=>?_)))))
 · refine wr (pN 1 k z fun a k=>nn (wp_ret (rt_then ?_)))
   refine fS h k m z z
 refine wp_skip (nm_then ?_)
 refine wr (pN 2 k z fun a k=>?_)
 have k:=k.keep [4] z
 refine nn (wp_ret (fS h k m z z))
theorem c_laws_szIntS (fu:Nat) {w0:World} (a1:List Int) (Aa:Int) {v2:Value} {F3:List Nat} (Ab:rd w0 F3 [v2] a1) {r:Int}
    (h:d_laws_szIntS fu a1 Aa = some r) :
    Calls Tryz.prog 80 #[v2,I Aa] w0 fun e w=>e = .returned (I r) ∧ Ext [] w0 w:=by
 refine enter (vs:=[_,_]) func80 z ntmps80 z fun a k=>?_
 have m:=St.start w0
 unfold d_laws_szIntS at h
 refine wr (pN 1 k z fun a k=>nn (wr (pN 2 k z fun a k=>sv k z (r_len (α:=Int) Ab k underlying63 z z) fun a k=>pN 2 k z fun a k=>nn (wp_seq (wr (pN 2 k z fun a k=>nn (cI h k z (fun Ac h=>?_) fun Ac h=>?_)))))))
 · refine wr (pN 1 k z fun a k=>nn (wp_ret (rt_then ?_)))
   refine fS h k m z z
 refine wp_skip (nm_then ?_)
 refine wr (pN 2 k z fun a k=>nn (wp_ret (fS h k m z z)))
theorem c_laws_szCarton (fu:Nat) {w0:World} (a1:Carton) (Ab:Int) {Aa:List Value} {F3:List Nat} (Ad:rd w0 F3 Aa a1) {r:Int}
    (h:d_laws_szCarton fu a1 Ab = some r) :
    Calls Tryz.prog 209 #[.agg Aa.toArray,I Ab] w0 fun e w=>e = .returned (I r) ∧ Ext [] w0 w:=by
 refine enter (vs:=[_,_]) func209 z ntmps209 z fun a k=>?_
 have m:=St.start w0
 obtain ⟨v6,_,rfl,rfl,Ac⟩:=Ad
 unfold d_laws_szCarton at h
 refine wr (s_box (cs:=[I a1.fType,I a1.fGroup,v6]) m k z z z z z z fun b8 Aj a k m e Ae=>pN 1 k z fun a k=>nn (wr (sv k z (r_fa fa197_2 k z z) fun a k=>sv k z (r_ldb t163 m 0 Ae 2 k z z z z z) fun a k=>pN 1 k z fun a k=>oE h fun Ah Ag h=>cE k m call80 z z z (c_laws_szIntS fu _ _ (Enc.rd_agr Ac (m.a00 (Enc.rd_lt Ac))) Ag) fun Ai e a k m=>pN 1 k z fun a k=>nn (wp_seq (wr (pN 2 k z fun a k=>nn (cI h k z (fun Af h=>?_) fun Af h=>?_)))))))
 · refine wr (pN 1 k z fun a k=>nn (wp_ret (rt_then ?_)))
   refine fS h k m z z
 refine wp_skip (nm_then ?_)
 refine wr (pN 2 k z fun a k=>nn (wp_ret (fS h k m z z)))
theorem c_laws_szCartonS (fu:Nat) {w0:World} (a1:List Carton) (Ae:Int) {v2:Value} {F3:List Nat} (Aa:rd w0 F3 [v2] a1) {r:Int}
    (h:d_laws_szCartonS fu a1 Ae = some r) :
    Calls Tryz.prog 102 #[v2,I Ae] w0 fun e w=>e = .returned (I r) ∧ Ext [] w0 w:=by
 refine enter (vs:=[_,_]) func102 z ntmps102 z fun a k=>?_
 have m:=St.start w0
 unfold d_laws_szCartonS at h
 refine wr (pN 1 k z fun a k=>nn (wr (pN 2 k z fun a k=>sv k z (r_len (α:=Carton) Aa k underlying49 z z) fun a k=>pN 2 k z fun a k=>nn (wp_seq (wr (pN 2 k z fun a k=>nn (cI h k z (fun Ah h=>?_) fun Ah h=>?_)))))))
 · refine wr (pN 1 k z fun a k=>nn (wp_ret (rt_then ?_)))
   refine fS h k m z z
 refine wp_skip (nm_then ?_)
 refine wp_seq (wr (pN 1 k z fun a k=>nn (wp_block (c_loop (fun n a w=>∃ (Ac:Int) (Ab:Int),K 27 [(0,v2),(1,I Ac),(5,I Ab)] a ∧ St [] w0 w [] ∧ d_laws_szCartonS_L1 fu a1 n Ac Ab = some r) ?_ ?_ fu _ _ ?_))))
 · rintro a w ⟨_,_,_,_,h⟩
   exact nS h
 · rintro Au a Aw ⟨Ac,Ab,k,m,h⟩
   rw [d_laws_szCartonS_L1_s] at h
   unfold d_laws_szCartonS_L1_B at h
   refine wp_seq (wr (pN 2 k z fun a k=>sv k z (r_len (α:=Carton) Aa k underlying49 z z) fun a k=>pN 1 k z fun a k=>nn (cI h k z (fun Am h=>?_) fun Am h=>?_)))
   · refine wp_skip (nm_then ?_)
     refine wp_seq (wp_block (wr (pN 2 k z fun a k=>oE h fun Ad Af h=>sv k z (r_ixa Aa Af k ts49 z z z) fun a k=>?_)))
     obtain ⟨Ar,Av,As,Ap,Ai,Ak⟩:=rd_get Aa (ix_some Af).2.2
     obtain ⟨Aj,_,rfl,rfl,Ag⟩:=Ap
     refine sv k z (r_ldA ta197 (Ai.agr (m.a00 (Enc.rd_lt Aa)) Ak) z k z z) fun a k=>pN 1 k z fun a k=>oE h fun Al Ao h=>cE k m call209 z z z (c_laws_szCarton fu _ _ (show rd _ _ [I Ad.fType,I Ad.fGroup,Aj] (Ad:Carton) from ⟨_,_,z,z,(Enc.rd_agr Ag (m.a00 (Enc.rd_lt Ag)))⟩) Ao) fun At e a k m=>pN 1 k z fun a k=>nn (wr (pN 2 k z fun a k=>nn (cI h k z (fun Aq h=>?_) fun Aq h=>?_)))
     · refine wr (pN 1 k z fun a k=>nn (wp_ret (rt_block (rt_then (rt_then (rt_block (rt_then ?_)))))))
       refine fS h k m z z
     refine wp_skip (nm_block (nm_then ?_))
     refine wp_region_lit (pN 3 k z fun a k=>nn ?_)
     exact ⟨Al,w64 (Ab + 1),k.keep [0,1,5] z,m.sel [] z (by decide),h⟩
   refine wp_exit (ex_then (ex_then (ex_same (nm_then ?_))))
   refine wr (pN 2 k z fun a k=>nn (wp_ret (fS h k m z z)))
 exact ⟨w64 (Ae - ((a1.length:Int))),0,k.keep [0,1,5] z,m.sel [] z (by decide),h⟩
theorem c_laws_szSpotS (fu:Nat) {w0:World} (a1:List Spot) (Aa:Int) {v2:Value} {F3:List Nat} (Ab:rd w0 F3 [v2] a1) {r:Int}
    (h:d_laws_szSpotS fu a1 Aa = some r) :
    Calls Tryz.prog 103 #[v2,I Aa] w0 fun e w=>e = .returned (I r) ∧ Ext [] w0 w:=by
 refine enter (vs:=[_,_]) func103 z ntmps103 z fun a k=>?_
 have m:=St.start w0
 unfold d_laws_szSpotS at h
 refine wr (pN 1 k z fun a k=>nn (wr (pN 2 k z fun a k=>sv k z (r_len (α:=Spot) Ab k underlying50 z z) fun a k=>pN 2 k z fun a k=>nn (wp_seq (wr (pN 2 k z fun a k=>nn (cI h k z (fun Ac h=>?_) fun Ac h=>?_)))))))
 · refine wr (pN 1 k z fun a k=>nn (wp_ret (rt_then ?_)))
   refine fS h k m z z
 refine wp_skip (nm_then ?_)
 refine wr (pN 2 k z fun a k=>nn (wp_ret (fS h k m z z)))
theorem c_laws_szPlan (fu:Nat) {w0:World} (a1:Plan) (Ae:Int) {Ab:List Value} {F3:List Nat} (Ah:rd w0 F3 Ab a1) {r:Int}
    (h:d_laws_szPlan fu a1 Ae = some r) :
    Calls Tryz.prog 32 #[.agg Ab.toArray,I Ae] w0 fun e w=>e = .returned (I r) ∧ Ext [] w0 w:=by
 refine enter (vs:=[_,_]) func32 z ntmps32 z fun a k=>?_
 have m:=St.start w0
 obtain ⟨v6,F7,v8,F9,rfl,rfl,Aa,Ad⟩:=Ah
 unfold d_laws_szPlan at h
 refine wr (s_box (cs:=[v6,v8]) m k z z z z z z fun Al Ak a k m e Ac=>pN 1 k z fun a k=>nn (wr (sv k z (r_fa fa52_0 k z z) fun a k=>sv k z (r_ldb t149 m 0 Ac 0 k z z z z z) fun a k=>pN 1 k z fun a k=>oE h fun Ao Ai h=>cE k m call102 z z z (c_laws_szCartonS fu _ _ (Enc.rd_agr Aa (m.a00 (Enc.rd_lt Aa))) Ai) fun Ap e a k m=>pN 1 k z fun a k=>nn (wp_seq (wr (pN 2 k z fun a k=>nn (cI h k z (fun Ag h=>?_) fun Ag h=>?_)))))))
 · refine wr (pN 1 k z fun a k=>nn (wp_ret (rt_then ?_)))
   refine fS h k m z z
 refine wp_skip (nm_then ?_)
 refine wr (sv k z (r_fa fa52_1 k z z) fun a k=>sv k z (r_ldb t150 m 0 Ac 1 k z z z z z) fun a k=>pN 1 k z fun a k=>oE h fun Aq Aj h=>cE k m call103 z z z (c_laws_szSpotS fu _ _ (Enc.rd_agr Ad (m.a00 (Enc.rd_lt Ad))) Aj) fun Am e a k m=>pN 1 k z fun a k=>nn (wp_seq (wr (pN 2 k z fun a k=>nn (cI h k z (fun Af h=>?_) fun Af h=>?_)))))
 · refine wr (pN 1 k z fun a k=>nn (wp_ret (rt_then ?_)))
   refine fS h k m z z
 refine wp_skip (nm_then ?_)
 refine wr (pN 2 k z fun a k=>nn (wp_ret (fS h k m z z)))
theorem c_laws_toPallet (fu:Nat) {w0:World} (a1:Pallet)  {r:Pallet}
    (h:d_laws_toPallet fu a1 = some r) :
    Calls Tryz.prog 81 #[.agg (Flat.e (a1)).toArray] w0 fun e w=>e = .returned (.agg (Flat.e r).toArray) ∧ Ext [] w0 w:=by
 refine enter (vs:=[_]) func81 z ntmps81 z fun a k=>?_
 have m:=St.start w0
 unfold d_laws_toPallet at h
 refine wr (s_box (cs:=[I a1.fW,I a1.fD,I a1.fH,I a1.fGram]) m k z z z z z z fun b2 w4 a k m e Aa=>s_alloc (cs:=[I 0,I 0,I 0,I 0]) m k zeroValue33 z z z z z fun b5 w7 a k m e Ab=>nn (wr (s_alloc (cs:=[I 0,I 0,I 0,I 0]) m k zeroValue33 z z z z z fun b8 Aj a k m e Ae=>nn (wr (sv k z (r_fa fa23_0 k z z) fun a k=>sv k z (r_ldb t13 m 2 Aa 0 k z z z z z) fun a k=>sv k z (r_fa fa33_0 k z z) fun a k=>s_stb (cs':=[I a1.fW,I 0,I 0,I 0]) sizeOf3 m 0 Ae 0 k z z z z z z z z z z z fun Al a k e m Ag=>nn (wr (sv k z (r_fa fa23_1 k z z) fun a k=>?_)))))))
 refine sv k z (r_ldb t13 m 2 Aa 1 k z z z z z) fun a k=>sv k z (r_fa fa33_1 k z z) fun a k=>s_stb (cs':=[I a1.fW,I a1.fD,I 0,I 0]) sizeOf3 m 0 Ag 1 k z z z z z z z z z z z fun Am a k e m Af=>nn (wr (sv k z (r_fa fa23_2 k z z) fun a k=>sv k z (r_ldb t13 m 2 Aa 2 k z z z z z) fun a k=>sv k z (r_fa fa33_2 k z z) fun a k=>s_stb (cs':=[I a1.fW,I a1.fD,I a1.fH,I 0]) sizeOf3 m 0 Af 2 k z z z z z z z z z z z fun Ai a k e m Ah=>nn (wr (sv k z (r_fa fa23_3 k z z) fun a k=>sv k z (r_ldb t13 m 2 Aa 3 k z z z z z) fun a k=>sv k z (r_fa fa33_3 k z z) fun a k=>?_))))
 refine s_stb (cs':=[I a1.fW,I a1.fD,I a1.fH,I a1.fGram]) sizeOf3 m 0 Ah 3 k z z z z z z z z z z z fun Ao a k e m Ac=>nn (wr (sv k z (r_ldB ta33 m 0 Ac 0 k z z z z z z) fun a k=>s_stb (cs':=[I a1.fW,I a1.fD,I a1.fH,I a1.fGram]) sizeOf33 m 1 Ab 0 k z z z z z z z z z z z fun Ak a k e m Ad=>nn (wp_ret ?_)))
 cases h
 exact finR1 k z (RV.cA k z ta33 (Ad.at (m.a 1 z) 0 4 z z z) z) ⟨z,m.ext⟩
theorem c_laws_toPair (fu:Nat) {w0:World} (a1:Pair)  {r:Pair}
    (h:d_laws_toPair fu a1 = some r) :
    Calls Tryz.prog 192 #[.agg (Flat.e (a1)).toArray] w0 fun e w=>e = .returned (.agg (Flat.e r).toArray) ∧ Ext [] w0 w:=by
 refine enter (vs:=[_]) func192 z ntmps192 z fun a k=>?_
 have m:=St.start w0
 unfold d_laws_toPair at h
 refine wr (s_box (cs:=[I a1.fA,I a1.fB]) m k z z z z z z fun b2 w4 a k m e Aa=>s_alloc (cs:=[I 0,I 0]) m k zeroValue180 z z z z z fun b5 w7 a k m e Ab=>nn (wr (s_alloc (cs:=[I 0,I 0]) m k zeroValue180 z z z z z fun b8 Ah a k m e Ac=>nn (wr (sv k z (r_fa fa182_0 k z z) fun a k=>sv k z (r_ldb t13 m 2 Aa 0 k z z z z z) fun a k=>sv k z (r_fa fa180_0 k z z) fun a k=>s_stb (cs':=[I a1.fA,I 0]) sizeOf3 m 0 Ac 0 k z z z z z z z z z z z fun Ai a k e m Ae=>nn (wr (sv k z (r_fa fa182_1 k z z) fun a k=>sv k z (r_ldb t13 m 2 Aa 1 k z z z z z) fun a k=>sv k z (r_fa fa180_1 k z z) fun a k=>?_)))))))
 refine s_stb (cs':=[I a1.fA,I a1.fB]) sizeOf3 m 0 Ae 1 k z z z z z z z z z z z fun Aj a k e m Ad=>nn (wr (sv k z (r_ldB ta180 m 0 Ad 0 k z z z z z z) fun a k=>s_stb (cs':=[I a1.fA,I a1.fB]) sizeOf180 m 1 Ab 0 k z z z z z z z z z z z fun Ag a k e m Af=>nn (wp_ret ?_)))
 cases h
 exact finR1 k z (RV.cA k z ta180 (Af.at (m.a 1 z) 0 2 z z z) z) ⟨z,m.ext⟩
theorem c_laws_toPairS (fu:Nat) {w0:World} (a1:List Pair) {v2:Value} {F3:List Nat} (Ab:rd w0 F3 [v2] a1) {r:(List Pair)}
    (h:d_laws_toPairS fu a1 = some r) :
    Calls Tryz.prog 82 #[v2] w0 fun e w=>∃ (v0:Value) (G0:List Nat),e = .returned (v0) ∧ Ext [] w0 w ∧ ow w G0 [v0] r ∧ (∀ b ∈ G0,w0.heap.size ≤ b):=by
 refine enter (vs:=[_]) func82 z ntmps82 z fun a k=>?_
 have m:=St.start w0
 unfold d_laws_toPairS at h
 refine wr (pN 1 k z fun a k=>nn (wr (pN 1 k z fun a k=>sv k z (r_len (α:=Pair) Ab k underlying24 z z) fun a k=>oE h fun x5 Ap h=>s_mk Ap te34 z z m k z z z z z z fun g7 w9 a As k m e Al=>pN 1 k z fun a k=>nn (wp_seq (wr (pN 1 k z fun a k=>nn (wp_block (c_loop (fun n a w=>∃ (Ae:List Pair) (Ad:Value) (Aa:List Nat) (Af:World) (Ac:Int),K 23 [(0,v2),(3,Ad),(4,I Ac)] a ∧ St [] w0 w [(Aa,Af)] ∧ ow Af Aa [Ad] Ae ∧ d_laws_toPairS_L1 fu a1 n Ae Ac = some r) ?_ ?_ fu _ _ ?_))))))))
 · rintro a w ⟨_,_,_,_,_,_,_,_,h⟩
   exact nS h
 · rintro Av a Aw ⟨Ae,Ad,Aa,Af,Ac,k,m,Ag,h⟩
   rw [d_laws_toPairS_L1_s] at h
   unfold d_laws_toPairS_L1_B at h
   refine wp_seq (wr (pN 2 k z fun a k=>sv k z (r_len (α:=Pair) Ab k underlying24 z z) fun a k=>pN 1 k z fun a k=>nn (cI h k z (fun Aq h=>?_) fun Aq h=>?_)))
   · refine wp_skip (nm_then ?_)
     refine wp_seq (wp_block (wp_region_lit (pN 4 k z fun a k=>oE h fun Ar Ai h=>sv k z (r_ixa Ab Ai k ts24 z z z) fun a k=>sv k z (r_lde Ab (m.a00 (Enc.rd_lt Ab)) Ai ta182 k z z) fun a k=>oE h fun Aj Ak h=>cE k m call192 z z z (c_laws_toPair fu (Ar:Pair)  Ak) fun Au e a k m=>oE h fun At Ah h=>sv k z (r_ixa (Enc.ow_rd Ag) Ah k ts34 z z z) fun a k=>s_ste (α:=Pair) (sz:=2) (y:=Aj) sizeOf180 Ah m 0 Ag 0 k z z z z z z z z z z z z fun Am a k e m Ao=>wpList_nil (nm_block (nm_then ?_)))))
     refine wp_region_lit (pN 3 k z fun a k=>nn ?_)
     exact ⟨setx Ae Ac Aj,Ad,Aa,Am,w64 (Ac + 1),k.keep [0,3,4] z,m.sel [0] z (by decide),Ao,h⟩
   refine wp_exit (ex_then (ex_then (ex_same (nm_then ?_))))
   refine wr (pN 2 k z fun a k=>nn (wp_ret ?_))
   cases h
   exact finR1 k z (RV.tmp k z) ⟨_,Aa,z,m.ext,(Enc.ow_agr Ag (m.a 0 z)),(m.fresh 0 z)⟩
 exact ⟨x5,As,[g7],w9,0,k.keep [0,3,4] z,m.sel [0] z (by decide),Al,h⟩
theorem c_laws_toType (fu:Nat) {w0:World} (a1:Typ)  {r:Typ}
    (h:d_laws_toType fu a1 = some r) :
    Calls Tryz.prog 193 #[.agg (Flat.e (a1)).toArray] w0 fun e w=>e = .returned (.agg (Flat.e r).toArray) ∧ Ext [] w0 w:=by
 refine enter (vs:=[_]) func193 z ntmps193 z fun a k=>?_
 have m:=St.start w0
 unfold d_laws_toType at h
 refine wr (s_box (cs:=[I a1.fId,I a1.fW,I a1.fH,I a1.fD,I a1.fTare,I a1.fGram,I a1.fCost]) m k z z z z z z fun b2 w4 a k m e Aa=>s_alloc (cs:=[I 0,I 0,I 0,I 0,I 0,I 0,I 0]) m k zeroValue79 z z z z z fun b5 w7 a k m e Ae=>nn (wr (s_alloc (cs:=[I 0,I 0,I 0,I 0,I 0,I 0,I 0]) m k zeroValue79 z z z z z fun b8 As a k m e Ai=>nn (wr (sv k z (r_fa fa184_0 k z z) fun a k=>sv k z (r_ldb t13 m 2 Aa 0 k z z z z z) fun a k=>sv k z (r_fa fa79_0 k z z) fun a k=>?_)))))
 refine s_stb (cs':=[I a1.fId,I 0,I 0,I 0,I 0,I 0,I 0]) sizeOf3 m 0 Ai 0 k z z z z z z z z z z z fun Au a k e m Ab=>nn (wr (sv k z (r_fa fa184_1 k z z) fun a k=>sv k z (r_ldb t13 m 2 Aa 1 k z z z z z) fun a k=>sv k z (r_fa fa79_1 k z z) fun a k=>s_stb (cs':=[I a1.fId,I a1.fW,I 0,I 0,I 0,I 0,I 0]) sizeOf3 m 0 Ab 1 k z z z z z z z z z z z fun Ap a k e m Ak=>nn (wr (sv k z (r_fa fa184_2 k z z) fun a k=>sv k z (r_ldb t13 m 2 Aa 2 k z z z z z) fun a k=>sv k z (r_fa fa79_2 k z z) fun a k=>?_))))
 refine s_stb (cs':=[I a1.fId,I a1.fW,I a1.fH,I 0,I 0,I 0,I 0]) sizeOf3 m 0 Ak 2 k z z z z z z z z z z z fun Al a k e m Ah=>nn (wr (sv k z (r_fa fa184_3 k z z) fun a k=>sv k z (r_ldb t13 m 2 Aa 3 k z z z z z) fun a k=>sv k z (r_fa fa79_3 k z z) fun a k=>s_stb (cs':=[I a1.fId,I a1.fW,I a1.fH,I a1.fD,I 0,I 0,I 0]) sizeOf3 m 0 Ah 3 k z z z z z z z z z z z fun Aq a k e m Aj=>nn (wr (sv k z (r_fa fa184_4 k z z) fun a k=>sv k z (r_ldb t13 m 2 Aa 4 k z z z z z) fun a k=>sv k z (r_fa fa79_4 k z z) fun a k=>?_))))
 refine s_stb (cs':=[I a1.fId,I a1.fW,I a1.fH,I a1.fD,I a1.fTare,I 0,I 0]) sizeOf3 m 0 Aj 4 k z z z z z z z z z z z fun Am a k e m Ac=>nn (wr (sv k z (r_fa fa184_5 k z z) fun a k=>sv k z (r_ldb t13 m 2 Aa 5 k z z z z z) fun a k=>sv k z (r_fa fa79_5 k z z) fun a k=>s_stb (cs':=[I a1.fId,I a1.fW,I a1.fH,I a1.fD,I a1.fTare,I a1.fGram,I 0]) sizeOf3 m 0 Ac 5 k z z z z z z z z z z z fun Ar a k e m Ad=>?_))
 have k:=k.keep [1,2,3] z
 refine nn (wr (sv k z (r_fa fa184_6 k z z) fun a k=>sv k z (r_ldb t13 m 2 Aa 6 k z z z z z) fun a k=>sv k z (r_fa fa79_6 k z z) fun a k=>s_stb (cs':=[I a1.fId,I a1.fW,I a1.fH,I a1.fD,I a1.fTare,I a1.fGram,I a1.fCost]) sizeOf3 m 0 Ad 6 k z z z z z z z z z z z fun At a k e m Af=>nn (wr (sv k z (r_ldB ta79 m 0 Af 0 k z z z z z z) fun a k=>s_stb (cs':=[I a1.fId,I a1.fW,I a1.fH,I a1.fD,I a1.fTare,I a1.fGram,I a1.fCost]) sizeOf79 m 1 Ae 0 k z z z z z z z z z z z fun Ao a k e m Ag=>nn (wp_ret ?_)))))
 cases h
 exact finR1 k z (RV.cA k z ta79 (Ag.at (m.a 1 z) 0 7 z z z) z) ⟨z,m.ext⟩
theorem c_laws_toTypeS (fu:Nat) {w0:World} (a1:List Typ) {v2:Value} {F3:List Nat} (Ab:rd w0 F3 [v2] a1) {r:(List Typ)}
    (h:d_laws_toTypeS fu a1 = some r) :
    Calls Tryz.prog 83 #[v2] w0 fun e w=>∃ (v0:Value) (G0:List Nat),e = .returned (v0) ∧ Ext [] w0 w ∧ ow w G0 [v0] r ∧ (∀ b ∈ G0,w0.heap.size ≤ b):=by
 refine enter (vs:=[_]) func83 z ntmps83 z fun a k=>?_
 have m:=St.start w0
 unfold d_laws_toTypeS at h
 refine wr (pN 1 k z fun a k=>nn (wr (pN 1 k z fun a k=>sv k z (r_len (α:=Typ) Ab k underlying25 z z) fun a k=>oE h fun x5 Ap h=>s_mk Ap te35 z z m k z z z z z z fun g7 w9 a As k m e Al=>pN 1 k z fun a k=>nn (wp_seq (wr (pN 1 k z fun a k=>nn (wp_block (c_loop (fun n a w=>∃ (Ae:List Typ) (Ad:Value) (Aa:List Nat) (Af:World) (Ac:Int),K 23 [(0,v2),(3,Ad),(4,I Ac)] a ∧ St [] w0 w [(Aa,Af)] ∧ ow Af Aa [Ad] Ae ∧ d_laws_toTypeS_L1 fu a1 n Ae Ac = some r) ?_ ?_ fu _ _ ?_))))))))
 · rintro a w ⟨_,_,_,_,_,_,_,_,h⟩
   exact nS h
 · rintro Av a Aw ⟨Ae,Ad,Aa,Af,Ac,k,m,Ag,h⟩
   rw [d_laws_toTypeS_L1_s] at h
   unfold d_laws_toTypeS_L1_B at h
   refine wp_seq (wr (pN 2 k z fun a k=>sv k z (r_len (α:=Typ) Ab k underlying25 z z) fun a k=>pN 1 k z fun a k=>nn (cI h k z (fun Aq h=>?_) fun Aq h=>?_)))
   · refine wp_skip (nm_then ?_)
     refine wp_seq (wp_block (wp_region_lit (pN 4 k z fun a k=>oE h fun Ar Ai h=>sv k z (r_ixa Ab Ai k ts25 z z z) fun a k=>sv k z (r_lde Ab (m.a00 (Enc.rd_lt Ab)) Ai ta184 k z z) fun a k=>oE h fun Aj Ak h=>cE k m call193 z z z (c_laws_toType fu (Ar:Typ)  Ak) fun Au e a k m=>oE h fun At Ah h=>sv k z (r_ixa (Enc.ow_rd Ag) Ah k ts35 z z z) fun a k=>s_ste (α:=Typ) (sz:=7) (y:=Aj) sizeOf79 Ah m 0 Ag 0 k z z z z z z z z z z z z fun Am a k e m Ao=>wpList_nil (nm_block (nm_then ?_)))))
     refine wp_region_lit (pN 3 k z fun a k=>nn ?_)
     exact ⟨setx Ae Ac Aj,Ad,Aa,Am,w64 (Ac + 1),k.keep [0,3,4] z,m.sel [0] z (by decide),Ao,h⟩
   refine wp_exit (ex_then (ex_then (ex_same (nm_then ?_))))
   refine wr (pN 2 k z fun a k=>nn (wp_ret ?_))
   cases h
   exact finR1 k z (RV.tmp k z) ⟨_,Aa,z,m.ext,(Enc.ow_agr Ag (m.a 0 z)),(m.fresh 0 z)⟩
 exact ⟨x5,As,[g7],w9,0,k.keep [0,3,4] z,m.sel [0] z (by decide),Al,h⟩
theorem c_laws_toItem (fu:Nat) {w0:World} (a1:Item)  {r:Item}
    (h:d_laws_toItem fu a1 = some r) :
    Calls Tryz.prog 194 #[.agg (Flat.e (a1)).toArray] w0 fun e w=>e = .returned (.agg (Flat.e r).toArray) ∧ Ext [] w0 w:=by
 refine enter (vs:=[_]) func194 z ntmps194 z fun a k=>?_
 have m:=St.start w0
 unfold d_laws_toItem at h
 refine wr (s_box (cs:=[I a1.fId,I a1.fW,I a1.fH,I a1.fD,I a1.fGram,I a1.fClass,I a1.fCount]) m k z z z z z z fun b2 w4 a k m e Aa=>s_alloc (cs:=[I 0,I 0,I 0,I 0,I 0,I 0,I 0]) m k zeroValue158 z z z z z fun b5 w7 a k m e Ae=>nn (wr (s_alloc (cs:=[I 0,I 0,I 0,I 0,I 0,I 0,I 0]) m k zeroValue158 z z z z z fun b8 As a k m e Ai=>nn (wr (sv k z (r_fa fa186_0 k z z) fun a k=>sv k z (r_ldb t13 m 2 Aa 0 k z z z z z) fun a k=>sv k z (r_fa fa158_0 k z z) fun a k=>?_)))))
 refine s_stb (cs':=[I a1.fId,I 0,I 0,I 0,I 0,I 0,I 0]) sizeOf3 m 0 Ai 0 k z z z z z z z z z z z fun Au a k e m Ab=>nn (wr (sv k z (r_fa fa186_1 k z z) fun a k=>sv k z (r_ldb t13 m 2 Aa 1 k z z z z z) fun a k=>sv k z (r_fa fa158_1 k z z) fun a k=>s_stb (cs':=[I a1.fId,I a1.fW,I 0,I 0,I 0,I 0,I 0]) sizeOf3 m 0 Ab 1 k z z z z z z z z z z z fun Ap a k e m Ak=>nn (wr (sv k z (r_fa fa186_2 k z z) fun a k=>sv k z (r_ldb t13 m 2 Aa 2 k z z z z z) fun a k=>sv k z (r_fa fa158_2 k z z) fun a k=>?_))))
 refine s_stb (cs':=[I a1.fId,I a1.fW,I a1.fH,I 0,I 0,I 0,I 0]) sizeOf3 m 0 Ak 2 k z z z z z z z z z z z fun Al a k e m Ah=>nn (wr (sv k z (r_fa fa186_3 k z z) fun a k=>sv k z (r_ldb t13 m 2 Aa 3 k z z z z z) fun a k=>sv k z (r_fa fa158_3 k z z) fun a k=>s_stb (cs':=[I a1.fId,I a1.fW,I a1.fH,I a1.fD,I 0,I 0,I 0]) sizeOf3 m 0 Ah 3 k z z z z z z z z z z z fun Aq a k e m Aj=>nn (wr (sv k z (r_fa fa186_4 k z z) fun a k=>sv k z (r_ldb t13 m 2 Aa 4 k z z z z z) fun a k=>sv k z (r_fa fa158_4 k z z) fun a k=>?_))))
 refine s_stb (cs':=[I a1.fId,I a1.fW,I a1.fH,I a1.fD,I a1.fGram,I 0,I 0]) sizeOf3 m 0 Aj 4 k z z z z z z z z z z z fun Am a k e m Ac=>nn (wr (sv k z (r_fa fa186_5 k z z) fun a k=>sv k z (r_ldb t13 m 2 Aa 5 k z z z z z) fun a k=>sv k z (r_fa fa158_5 k z z) fun a k=>s_stb (cs':=[I a1.fId,I a1.fW,I a1.fH,I a1.fD,I a1.fGram,I a1.fClass,I 0]) sizeOf3 m 0 Ac 5 k z z z z z z z z z z z fun Ar a k e m Ad=>?_))
 have k:=k.keep [1,2,3] z
 refine nn (wr (sv k z (r_fa fa186_6 k z z) fun a k=>sv k z (r_ldb t13 m 2 Aa 6 k z z z z z) fun a k=>sv k z (r_fa fa158_6 k z z) fun a k=>s_stb (cs':=[I a1.fId,I a1.fW,I a1.fH,I a1.fD,I a1.fGram,I a1.fClass,I a1.fCount]) sizeOf3 m 0 Ad 6 k z z z z z z z z z z z fun At a k e m Af=>nn (wr (sv k z (r_ldB ta158 m 0 Af 0 k z z z z z z) fun a k=>s_stb (cs':=[I a1.fId,I a1.fW,I a1.fH,I a1.fD,I a1.fGram,I a1.fClass,I a1.fCount]) sizeOf158 m 1 Ae 0 k z z z z z z z z z z z fun Ao a k e m Ag=>nn (wp_ret ?_)))))
 cases h
 exact finR1 k z (RV.cA k z ta158 (Ag.at (m.a 1 z) 0 7 z z z) z) ⟨z,m.ext⟩
theorem c_laws_toItemS (fu:Nat) {w0:World} (a1:List Item) {v2:Value} {F3:List Nat} (Ab:rd w0 F3 [v2] a1) {r:(List Item)}
    (h:d_laws_toItemS fu a1 = some r) :
    Calls Tryz.prog 84 #[v2] w0 fun e w=>∃ (v0:Value) (G0:List Nat),e = .returned (v0) ∧ Ext [] w0 w ∧ ow w G0 [v0] r ∧ (∀ b ∈ G0,w0.heap.size ≤ b):=by
 refine enter (vs:=[_]) func84 z ntmps84 z fun a k=>?_
 have m:=St.start w0
 unfold d_laws_toItemS at h
 refine wr (pN 1 k z fun a k=>nn (wr (pN 1 k z fun a k=>sv k z (r_len (α:=Item) Ab k underlying26 z z) fun a k=>oE h fun x5 Ap h=>s_mk Ap te36 z z m k z z z z z z fun g7 w9 a As k m e Al=>pN 1 k z fun a k=>nn (wp_seq (wr (pN 1 k z fun a k=>nn (wp_block (c_loop (fun n a w=>∃ (Ae:List Item) (Ad:Value) (Aa:List Nat) (Af:World) (Ac:Int),K 23 [(0,v2),(3,Ad),(4,I Ac)] a ∧ St [] w0 w [(Aa,Af)] ∧ ow Af Aa [Ad] Ae ∧ d_laws_toItemS_L1 fu a1 n Ae Ac = some r) ?_ ?_ fu _ _ ?_))))))))
 · rintro a w ⟨_,_,_,_,_,_,_,_,h⟩
   exact nS h
 · rintro Av a Aw ⟨Ae,Ad,Aa,Af,Ac,k,m,Ag,h⟩
   rw [d_laws_toItemS_L1_s] at h
   unfold d_laws_toItemS_L1_B at h
   refine wp_seq (wr (pN 2 k z fun a k=>sv k z (r_len (α:=Item) Ab k underlying26 z z) fun a k=>pN 1 k z fun a k=>nn (cI h k z (fun Aq h=>?_) fun Aq h=>?_)))
   · refine wp_skip (nm_then ?_)
     refine wp_seq (wp_block (wp_region_lit (pN 4 k z fun a k=>oE h fun Ar Ai h=>sv k z (r_ixa Ab Ai k ts26 z z z) fun a k=>sv k z (r_lde Ab (m.a00 (Enc.rd_lt Ab)) Ai ta186 k z z) fun a k=>oE h fun Aj Ak h=>cE k m call194 z z z (c_laws_toItem fu (Ar:Item)  Ak) fun Au e a k m=>oE h fun At Ah h=>sv k z (r_ixa (Enc.ow_rd Ag) Ah k ts36 z z z) fun a k=>s_ste (α:=Item) (sz:=7) (y:=Aj) sizeOf158 Ah m 0 Ag 0 k z z z z z z z z z z z z fun Am a k e m Ao=>wpList_nil (nm_block (nm_then ?_)))))
     refine wp_region_lit (pN 3 k z fun a k=>nn ?_)
     exact ⟨setx Ae Ac Aj,Ad,Aa,Am,w64 (Ac + 1),k.keep [0,3,4] z,m.sel [0] z (by decide),Ao,h⟩
   refine wp_exit (ex_then (ex_then (ex_same (nm_then ?_))))
   refine wr (pN 2 k z fun a k=>nn (wp_ret ?_))
   cases h
   exact finR1 k z (RV.tmp k z) ⟨_,Aa,z,m.ext,(Enc.ow_agr Ag (m.a 0 z)),(m.fresh 0 z)⟩
 exact ⟨x5,As,[g7],w9,0,k.keep [0,3,4] z,m.sel [0] z (by decide),Al,h⟩
theorem c_laws_toRequest (fu:Nat) {w0:World} (a1:Request) {Ap:List Value} {F3:List Nat} (Bg:rd w0 F3 Ap a1) {r:Request}
    (h:d_laws_toRequest fu a1 = some r) :
    Calls Tryz.prog 18 #[.agg Ap.toArray] w0 fun e w=>∃ (Ai:List Value) (G0:List Nat),e = .returned (.agg Ai.toArray) ∧ Ext [] w0 w ∧ ow w G0 Ai r ∧ (∀ b ∈ G0,w0.heap.size ≤ b):=by
 refine enter (vs:=[_]) func18 z ntmps18 z fun a k=>?_
 have m:=St.start w0
 obtain ⟨v5,F6,v7,F8,v9,Bl,rfl,rfl,Al,Ah,Ao⟩:=Bg
 unfold d_laws_toRequest at h
 refine wr (s_box (cs:=[I a1.fWay,I a1.fPallet.fW,I a1.fPallet.fD,I a1.fPallet.fH,I a1.fPallet.fGram,I a1.fClasses,v5,v7,I a1.fMaster,v9]) m k z z z z z z fun Bw Cb a k m e Ab=>s_alloc (cs:=[I 0,I 0,I 0,I 0,I 0,I 0,.slice none 0 0,.slice none 0 0,I 0,.slice none 0 0]) m k zeroValue38 z z z z z fun Bq Bm a k m e Bf=>nn (wr (s_alloc (cs:=[I 0,I 0,I 0,I 0,I 0,I 0,.slice none 0 0,.slice none 0 0,I 0,.slice none 0 0]) m k zeroValue38 z z z z z fun Bu Bt a k m e Az=>nn (wr (sv k z (r_fa fa28_0 k z z) fun a k=>?_)))))
 refine sv k z (r_ldb t13 m 2 Ab 0 k z z z z z) fun a k=>sv k z (r_fa fa38_0 k z z) fun a k=>s_stb (cs':=[I a1.fWay,I 0,I 0,I 0,I 0,I 0,.slice none 0 0,.slice none 0 0,I 0,.slice none 0 0]) sizeOf3 m 0 Az 0 k z z z z z z z z z z z fun Cf a k e m Ay=>nn (wr (sv k z (r_fa fa28_1 k z z) fun a k=>sv k z (r_ldB ta23 m 2 Ab 1 k z z z z z z) fun a k=>oE h fun Aa Bh h=>cE k m call81 z z z (c_laws_toPallet fu (a1.fPallet:Pallet)  Bh) fun Bv e a k m=>sv k z (r_fa fa38_1 k z z) fun a k=>?_))
 refine s_stb (cs':=[I a1.fWay,I Aa.fW,I Aa.fD,I Aa.fH,I Aa.fGram,I 0,.slice none 0 0,.slice none 0 0,I 0,.slice none 0 0]) sizeOf33 m 0 Ay 1 k z z z z z z z z z z z fun Bn a k e m As=>nn (wr (sv k z (r_fa fa28_2 k z z) fun a k=>sv k z (r_ldb t13 m 2 Ab 5 k z z z z z) fun a k=>sv k z (r_fa fa38_2 k z z) fun a k=>s_stb (cs':=[I a1.fWay,I Aa.fW,I Aa.fD,I Aa.fH,I Aa.fGram,I a1.fClasses,.slice none 0 0,.slice none 0 0,I 0,.slice none 0 0]) sizeOf3 m 0 As 5 k z z z z z z z z z z z fun Br a k e m Av=>nn (wr (sv k z (r_fa fa28_3 k z z) fun a k=>?_))))
 refine sv k z (r_ldb t124 m 2 Ab 6 k z z z z z) fun a k=>oE h fun Bk At h=>s_call k call82 z z z z z (c_laws_toPairS fu _ (Enc.rd_agr Al (m.a00 (Enc.rd_lt Al))) At) fun By Ch hR=>?_
 obtain ⟨Af,Aj,rfl,e,Ac,Bb⟩:=hR
 refine ⟨_,z,fun a k=>?_⟩
 have m:=m.new e Aj (fun b hb=>⟨Bb b hb,Enc.rd_lt (Enc.ow_rd Ac) b hb⟩) (Enc.ow_nd Ac)
 refine sv k z (r_fa fa38_3 k z z) fun a k=>s_stb1 (cs':=[I a1.fWay,I Aa.fW,I Aa.fD,I Aa.fH,I Aa.fGram,I a1.fClasses,Af,.slice none 0 0,I 0,.slice none 0 0]) sizeOf34 m 1 Av 6 k (rd_c (Enc.ow_rd Ac)) (rd_o (Enc.ow_rd Ac)) z z z z z z z z z fun Cd a k e m Be=>nn (wr (sv k z (r_fa fa28_4 k z z) fun a k=>sv k z (r_ldb t125 m 3 Ab 7 k z z z z z) fun a k=>oE h fun Bx Ar h=>s_call k call83 z z z z z (c_laws_toTypeS fu _ (Enc.rd_agr Ah (m.a00 (Enc.rd_lt Ah))) Ar) fun Cg Bo hR=>?_))
 obtain ⟨Ag,Am,rfl,e,Ad,Bc⟩:=hR
 refine ⟨_,z,fun a k=>?_⟩
 have m:=m.new e Am (fun b hb=>⟨Bc b hb,Enc.rd_lt (Enc.ow_rd Ad) b hb⟩) (Enc.ow_nd Ad)
 refine sv k z (r_fa fa38_4 k z z) fun a k=>s_stb1 (cs':=[I a1.fWay,I Aa.fW,I Aa.fD,I Aa.fH,I Aa.fGram,I a1.fClasses,Af,Ag,I 0,.slice none 0 0]) sizeOf35 m 2 Be 7 k (rd_c (Enc.ow_rd Ad)) (rd_o (Enc.ow_rd Ad)) z z z z z z z z z fun Bz a k e m Bi=>nn (wr (sv k z (r_fa fa28_5 k z z) fun a k=>sv k z (r_ldb t13 m 4 Ab 8 k z z z z z) fun a k=>sv k z (r_fa fa38_5 k z z) fun a k=>s_stb (cs':=[I a1.fWay,I Aa.fW,I Aa.fD,I Aa.fH,I Aa.fGram,I a1.fClasses,Af,Ag,I a1.fMaster,.slice none 0 0]) sizeOf3 m 2 Bi 8 k z z z z z z z z z z z fun Bj a k e m Aw=>?_))
 have k:=k.keep [1,2,3] z
 refine nn (wr (sv k z (r_fa fa28_6 k z z) fun a k=>sv k z (r_ldb t126 m 4 Ab 9 k z z z z z) fun a k=>oE h fun Bs Ax h=>s_call k call84 z z z z z (c_laws_toItemS fu _ (Enc.rd_agr Ao (m.a00 (Enc.rd_lt Ao))) Ax) fun Cc Bp hR=>?_))
 obtain ⟨Aq,Ak,rfl,e,Ae,Bd⟩:=hR
 refine ⟨_,z,fun a k=>?_⟩
 have m:=m.new e Ak (fun b hb=>⟨Bd b hb,Enc.rd_lt (Enc.ow_rd Ae) b hb⟩) (Enc.ow_nd Ae)
 refine sv k z (r_fa fa38_6 k z z) fun a k=>s_stb1 (cs':=[I a1.fWay,I Aa.fW,I Aa.fD,I Aa.fH,I Aa.fGram,I a1.fClasses,Af,Ag,I a1.fMaster,Aq]) sizeOf36 m 3 Aw 9 k (rd_c (Enc.ow_rd Ae)) (rd_o (Enc.ow_rd Ae)) z z z z z z z z z fun Ce a k e m Ba=>nn (wr (sv k z (r_ldB ta38 m 3 Ba 0 k z z z z z z) fun a k=>?_))
 refine s_stb (cs':=[I a1.fWay,I Aa.fW,I Aa.fD,I Aa.fH,I Aa.fGram,I a1.fClasses,Af,Ag,I a1.fMaster,Aq]) sizeOf38 m 4 Bf 0 k z z z z z z z z z z (allc z (allc z (allc z (allc z (allc z (allc z (allc (rd_o (Enc.ow_rd Ac)) (allc (rd_o (Enc.ow_rd Ad)) (allc z (allc (rd_o (Enc.ow_rd Ae)) alln)))))))))) fun Ca a k e m Au=>nn (wp_ret ?_)
 cases h
 exact finR1 k z (RV.cA k z ta38 (Au.at (m.a 4 z) 0 10 z z z) z) ⟨_,_,z,m.ext,⟨_,Aj,_,Am,_,Ak,z,z,(Enc.ow_agr Ac (m.a 2 z)),(Enc.ow_agr Ad (m.a 1 z)),(Enc.ow_agr Ae (m.a 0 z)),by simpa [fps] using (m.sel [2,1,0] z (by decide)).nd⟩,(app_fresh (m.fresh 2 z) (app_fresh (m.fresh 1 z) (m.fresh 0 z)))⟩
theorem c_laws_toIntS (fu:Nat) {w0:World} (a1:List Int) {v2:Value} {F3:List Nat} (Ac:rd w0 F3 [v2] a1) {r:(List Int)}
    (h:d_laws_toIntS fu a1 = some r) :
    Calls Tryz.prog 40 #[v2] w0 fun e w=>∃ (v0:Value) (G0:List Nat),e = .returned (v0) ∧ Ext [] w0 w ∧ ow w G0 [v0] r ∧ (∀ b ∈ G0,w0.heap.size ≤ b):=by
 refine enter (vs:=[_]) func40 z ntmps40 z fun a k=>?_
 have m:=St.start w0
 unfold d_laws_toIntS at h
 refine wr (pN 1 k z fun a k=>nn (wr (pN 1 k z fun a k=>sv k z (r_len (α:=Int) Ac k underlying63 z z) fun a k=>oE h fun x5 Ao h=>s_mk Ao te63 z z m k z z z z z z fun g7 w9 a Aq k m e Am=>pN 1 k z fun a k=>nn (wp_seq (wr (pN 1 k z fun a k=>nn (wp_block (c_loop (fun n a w=>∃ (Ad:List Int) (Ae:Value) (Ab:List Nat) (Ag:World) (Aa:Int),K 22 [(0,v2),(3,Ae),(4,I Aa)] a ∧ St [] w0 w [(Ab,Ag)] ∧ ow Ag Ab [Ae] Ad ∧ d_laws_toIntS_L1 fu a1 n Ad Aa = some r) ?_ ?_ fu _ _ ?_))))))))
 · rintro a w ⟨_,_,_,_,_,_,_,_,h⟩
   exact nS h
 · rintro Ar a As ⟨Ad,Ae,Ab,Ag,Aa,k,m,Af,h⟩
   rw [d_laws_toIntS_L1_s] at h
   unfold d_laws_toIntS_L1_B at h
   refine wp_seq (wr (pN 2 k z fun a k=>sv k z (r_len (α:=Int) Ac k underlying63 z z) fun a k=>pN 1 k z fun a k=>nn (cI h k z (fun Ap h=>?_) fun Ap h=>?_)))
   · refine wp_skip (nm_then ?_)
     refine wp_seq (wp_block (wp_region_lit (pN 4 k z fun a k=>oE h fun Ai Aj h=>sv k z (r_ixa Ac Aj k ts63 z z z) fun a k=>sv k z (r_lde1 Ac (m.a00 (Enc.rd_lt Ac)) Aj 0 t13 k z z z z) fun a k=>oE h fun At Ah h=>sv k z (r_ixa (Enc.ow_rd Af) Ah k ts63 z z z) fun a k=>s_ste (α:=Int) (sz:=1) (y:=Ai) sizeOf3 Ah m 0 Af 0 k z z z z z z z z z z z z fun Al a k e m Ak=>wpList_nil (nm_block (nm_then ?_)))))
     refine wp_region_lit (pN 3 k z fun a k=>nn ?_)
     exact ⟨setx Ad Aa Ai,Ae,Ab,Al,w64 (Aa + 1),k.keep [0,3,4] z,m.sel [0] z (by decide),Ak,h⟩
   refine wp_exit (ex_then (ex_then (ex_same (nm_then ?_))))
   refine wr (pN 2 k z fun a k=>nn (wp_ret ?_))
   cases h
   exact finR1 k z (RV.tmp k z) ⟨_,Ab,z,m.ext,(Enc.ow_agr Af (m.a 0 z)),(m.fresh 0 z)⟩
 exact ⟨x5,Aq,[g7],w9,0,k.keep [0,3,4] z,m.sel [0] z (by decide),Am,h⟩
theorem c_laws_toCarton (fu:Nat) {w0:World} (a1:Carton) {Ae:List Value} {F3:List Nat} (Ap:rd w0 F3 Ae a1) {r:Carton}
    (h:d_laws_toCarton fu a1 = some r) :
    Calls Tryz.prog 218 #[.agg Ae.toArray] w0 fun e w=>∃ (Ac:List Value) (G0:List Nat),e = .returned (.agg Ac.toArray) ∧ Ext [] w0 w ∧ ow w G0 Ac r ∧ (∀ b ∈ G0,w0.heap.size ≤ b):=by
 refine enter (vs:=[_]) func218 z ntmps218 z fun a k=>?_
 have m:=St.start w0
 obtain ⟨v5,_,rfl,rfl,Ag⟩:=Ap
 unfold d_laws_toCarton at h
 refine wr (s_box (cs:=[I a1.fType,I a1.fGroup,v5]) m k z z z z z z fun b7 w9 a k m e Ab=>s_alloc (cs:=[I 0,I 0,.slice none 0 0]) m k zeroValue83 z z z z z fun Ay Au a k m e Al=>nn (wr (s_alloc (cs:=[I 0,I 0,.slice none 0 0]) m k zeroValue83 z z z z z fun Av Ar a k m e Aq=>nn (wr (sv k z (r_fa fa197_0 k z z) fun a k=>sv k z (r_ldb t13 m 2 Ab 0 k z z z z z) fun a k=>sv k z (r_fa fa83_0 k z z) fun a k=>s_stb (cs':=[I a1.fType,I 0,.slice none 0 0]) sizeOf3 m 0 Aq 0 k z z z z z z z z z z z fun Aw a k e m Aj=>nn (wr (sv k z (r_fa fa197_1 k z z) fun a k=>sv k z (r_ldb t13 m 2 Ab 1 k z z z z z) fun a k=>?_)))))))
 refine sv k z (r_fa fa83_1 k z z) fun a k=>s_stb (cs':=[I a1.fType,I a1.fGroup,.slice none 0 0]) sizeOf3 m 0 Aj 1 k z z z z z z z z z z z fun Bb a k e m Ao=>nn (wr (sv k z (r_fa fa197_2 k z z) fun a k=>sv k z (r_ldb t163 m 2 Ab 2 k z z z z z) fun a k=>oE h fun Ax Am h=>s_call k call40 z z z z z (c_laws_toIntS fu _ (Enc.rd_agr Ag (m.a00 (Enc.rd_lt Ag))) Am) fun Ba Az hR=>?_))
 obtain ⟨Af,Ad,rfl,e,Aa,Ai⟩:=hR
 refine ⟨_,z,fun a k=>?_⟩
 have m:=m.new e Ad (fun b hb=>⟨Ai b hb,Enc.rd_lt (Enc.ow_rd Aa) b hb⟩) (Enc.ow_nd Aa)
 refine sv k z (r_fa fa83_2 k z z) fun a k=>s_stb1 (cs':=[I a1.fType,I a1.fGroup,Af]) sizeOf63 m 1 Ao 2 k (rd_c (Enc.ow_rd Aa)) (rd_o (Enc.ow_rd Aa)) z z z z z z z z z fun As a k e m Ah=>nn (wr (sv k z (r_ldB ta83 m 1 Ah 0 k z z z z z z) fun a k=>s_stb (cs':=[I a1.fType,I a1.fGroup,Af]) sizeOf83 m 2 Al 0 k z z z z z z z z z z (allc z (allc z (allc (rd_o (Enc.ow_rd Aa)) alln))) fun At a k e m Ak=>nn (wp_ret ?_)))
 cases h
 exact finR1 k z (RV.cA k z ta83 (Ak.at (m.a 2 z) 0 3 z z z) z) ⟨_,_,z,m.ext,⟨_,Ad,z,z,(Enc.ow_agr Aa (m.a 0 z)),by simpa [fps] using (m.sel [0] z (by decide)).nd⟩,(m.fresh 0 z)⟩
theorem c_laws_toCartonS (fu:Nat) {w0:World} (a1:List Carton) {v2:Value} {F3:List Nat} (Ab:rd w0 F3 [v2] a1) {r:(List Carton)}
    (h:d_laws_toCartonS fu a1 = some r) :
    Calls Tryz.prog 113 #[v2] w0 fun e w=>∃ (v0:Value) (G0:List Nat),e = .returned (v0) ∧ Ext [] w0 w ∧ ow w G0 [v0] r ∧ (∀ b ∈ G0,w0.heap.size ≤ b):=by
 refine enter (vs:=[_]) func113 z ntmps113 z fun a k=>?_
 have m:=St.start w0
 unfold d_laws_toCartonS at h
 refine wr (pN 1 k z fun a k=>nn (wr (pN 1 k z fun a k=>sv k z (r_len (α:=Carton) Ab k underlying49 z z) fun a k=>oE h fun x5 Bb h=>s_mkN Bb te55 (fun w=>⟨.slice none 0 0,[],z,z,ow_nil _,by simp⟩) z m k z z z z z z fun g7 w9 a Ba k m e Aw=>pN 1 k z fun a k=>nn (wp_seq (wr (pN 1 k z fun a k=>nn (wp_block (c_loop (fun n a w=>∃ (Af:List Carton) (Ag:Value) (Ad:List Nat) (Aj:World) (Ac:Int),K 23 [(0,v2),(3,Ag),(4,I Ac)] a ∧ St [] w0 w [(Ad,Aj)] ∧ ow Aj Ad [Ag] Af ∧ d_laws_toCartonS_L1 fu a1 n Af Ac = some r) ?_ ?_ fu _ _ ?_))))))))
 · rintro a w ⟨_,_,_,_,_,_,_,_,h⟩
   exact nS h
 · rintro Bt a Bp ⟨Af,Ag,Ad,Aj,Ac,k,m,Ae,h⟩
   rw [d_laws_toCartonS_L1_s] at h
   unfold d_laws_toCartonS_L1_B at h
   refine wp_seq (wr (pN 2 k z fun a k=>sv k z (r_len (α:=Carton) Ab k underlying49 z z) fun a k=>pN 1 k z fun a k=>nn (cI h k z (fun Az h=>?_) fun Az h=>?_)))
   · refine wp_skip (nm_then ?_)
     refine wp_seq (wp_block (wp_region_lit (pN 4 k z fun a k=>oE h fun Ai Ap h=>sv k z (r_ixa Ab Ap k ts49 z z z) fun a k=>?_)))
     obtain ⟨Cc,Bq,Bv,Au,Bd,At⟩:=rd_get Ab (ix_some Ap).2.2
     obtain ⟨Bf,_,rfl,rfl,Ar⟩:=Au
     refine sv k z (r_ldA ta197 (Bd.agr (m.a00 (Enc.rd_lt Ab)) At) z k z z) fun a k=>oE h fun Aa Bm h=>s_call k call218 z z z z z (c_laws_toCarton fu _ (show rd _ _ [I Ai.fType,I Ai.fGroup,Bf] (Ai:Carton) from ⟨_,_,z,z,(Enc.rd_agr Ar (m.a00 (Enc.rd_lt Ar)))⟩) Bm) fun Cb Am hR=>?_
     obtain ⟨Bn,Ak,rfl,e,Ah,Bk⟩:=hR
     refine ⟨_,z,fun a k=>?_⟩
     have m:=m.new e Ak (fun b hb=>⟨Bk b hb,Enc.rd_lt (Enc.ow_rd Ah) b hb⟩) (Enc.ow_nd Ah)
     obtain ⟨Ao,_,rfl,rfl,Aq,_⟩:=Ah
     refine oE h fun Ca Al h=>sv k z (r_ixa (Enc.ow_rd Ae) Al k ts55 z z z) fun a k=>?_
     obtain ⟨Bs,Bo,Bu,Bj,Bi,Bx⟩:=rd_get (Enc.ow_rd Ae) (ix_some Al).2.2
     obtain ⟨Bc,_,rfl,rfl,Br⟩:=Bj
     obtain ⟨Bz,By,m,Ax,Bh⟩:=m.opn 1 z Ae Al Bi z (M':=[(Ak,Am)]) z
     obtain ⟨Ay,_,Be,rfl,Bw,_⟩:=Bh
     obtain rfl:Bc = Ay:=by simpa using Be
     refine s_stH (α:=Carton) (sz:=3) (cs':=[I Aa.fType,I Aa.fGroup,Ao]) sizeOf83 m 0 Ax 0 k z z z z z z z z z (allc z (allc z (allc (rd_o (Enc.ow_rd Aq)) alln))) z z fun As a k e m Bl=>?_
     obtain ⟨Bg,m,Av⟩:=(m.sel [0,2] z (by decide)).cls Bl (show ow Am Ak [I Aa.fType,I Aa.fGroup,Ao] (Aa:Carton) from ⟨_,_,z,z,Aq,(m.ndF 2 z)⟩)
     refine wpList_nil (nm_block (nm_then ?_))
     refine wp_region_lit (pN 3 k z fun a k=>nn ?_)
     exact ⟨setx Af Ac Aa,Ag,Bg,As,w64 (Ac + 1),k.keep [0,3,4] z,m.sel [0] z (by decide),Av,h⟩
   refine wp_exit (ex_then (ex_then (ex_same (nm_then ?_))))
   refine wr (pN 2 k z fun a k=>nn (wp_ret ?_))
   cases h
   exact finR1 k z (RV.tmp k z) ⟨_,Ad,z,m.ext,(Enc.ow_agr Ae (m.a 0 z)),(m.fresh 0 z)⟩
 exact ⟨x5,Ba,[g7],w9,0,k.keep [0,3,4] z,m.sel [0] z (by decide),Aw,h⟩
theorem c_laws_toSpot (fu:Nat) {w0:World} (a1:Spot)  {r:Spot}
    (h:d_laws_toSpot fu a1 = some r) :
    Calls Tryz.prog 219 #[.agg (Flat.e (a1)).toArray] w0 fun e w=>e = .returned (.agg (Flat.e r).toArray) ∧ Ext [] w0 w:=by
 refine enter (vs:=[_]) func219 z ntmps219 z fun a k=>?_
 have m:=St.start w0
 unfold d_laws_toSpot at h
 refine wr (s_box (cs:=[I a1.fPallet,I a1.fX,I a1.fY,I a1.fZ]) m k z z z z z z fun b2 w4 a k m e Aa=>s_alloc (cs:=[I 0,I 0,I 0,I 0]) m k zeroValue89 z z z z z fun b5 w7 a k m e Ab=>nn (wr (s_alloc (cs:=[I 0,I 0,I 0,I 0]) m k zeroValue89 z z z z z fun b8 Aj a k m e Ae=>nn (wr (sv k z (r_fa fa200_0 k z z) fun a k=>sv k z (r_ldb t13 m 2 Aa 0 k z z z z z) fun a k=>sv k z (r_fa fa89_0 k z z) fun a k=>s_stb (cs':=[I a1.fPallet,I 0,I 0,I 0]) sizeOf3 m 0 Ae 0 k z z z z z z z z z z z fun Al a k e m Ag=>nn (wr (sv k z (r_fa fa200_1 k z z) fun a k=>?_)))))))
 refine sv k z (r_ldb t13 m 2 Aa 1 k z z z z z) fun a k=>sv k z (r_fa fa89_1 k z z) fun a k=>s_stb (cs':=[I a1.fPallet,I a1.fX,I 0,I 0]) sizeOf3 m 0 Ag 1 k z z z z z z z z z z z fun Am a k e m Af=>nn (wr (sv k z (r_fa fa200_2 k z z) fun a k=>sv k z (r_ldb t13 m 2 Aa 2 k z z z z z) fun a k=>sv k z (r_fa fa89_2 k z z) fun a k=>s_stb (cs':=[I a1.fPallet,I a1.fX,I a1.fY,I 0]) sizeOf3 m 0 Af 2 k z z z z z z z z z z z fun Ai a k e m Ah=>nn (wr (sv k z (r_fa fa200_3 k z z) fun a k=>sv k z (r_ldb t13 m 2 Aa 3 k z z z z z) fun a k=>sv k z (r_fa fa89_3 k z z) fun a k=>?_))))
 refine s_stb (cs':=[I a1.fPallet,I a1.fX,I a1.fY,I a1.fZ]) sizeOf3 m 0 Ah 3 k z z z z z z z z z z z fun Ao a k e m Ac=>nn (wr (sv k z (r_ldB ta89 m 0 Ac 0 k z z z z z z) fun a k=>s_stb (cs':=[I a1.fPallet,I a1.fX,I a1.fY,I a1.fZ]) sizeOf89 m 1 Ab 0 k z z z z z z z z z z z fun Ak a k e m Ad=>nn (wp_ret ?_)))
 cases h
 exact finR1 k z (RV.cA k z ta89 (Ad.at (m.a 1 z) 0 4 z z z) z) ⟨z,m.ext⟩
theorem c_laws_toSpotS (fu:Nat) {w0:World} (a1:List Spot) {v2:Value} {F3:List Nat} (Ab:rd w0 F3 [v2] a1) {r:(List Spot)}
    (h:d_laws_toSpotS fu a1 = some r) :
    Calls Tryz.prog 114 #[v2] w0 fun e w=>∃ (v0:Value) (G0:List Nat),e = .returned (v0) ∧ Ext [] w0 w ∧ ow w G0 [v0] r ∧ (∀ b ∈ G0,w0.heap.size ≤ b):=by
 refine enter (vs:=[_]) func114 z ntmps114 z fun a k=>?_
 have m:=St.start w0
 unfold d_laws_toSpotS at h
 refine wr (pN 1 k z fun a k=>nn (wr (pN 1 k z fun a k=>sv k z (r_len (α:=Spot) Ab k underlying50 z z) fun a k=>oE h fun x5 Ap h=>s_mk Ap te56 z z m k z z z z z z fun g7 w9 a As k m e Al=>pN 1 k z fun a k=>nn (wp_seq (wr (pN 1 k z fun a k=>nn (wp_block (c_loop (fun n a w=>∃ (Ae:List Spot) (Ad:Value) (Aa:List Nat) (Af:World) (Ac:Int),K 23 [(0,v2),(3,Ad),(4,I Ac)] a ∧ St [] w0 w [(Aa,Af)] ∧ ow Af Aa [Ad] Ae ∧ d_laws_toSpotS_L1 fu a1 n Ae Ac = some r) ?_ ?_ fu _ _ ?_))))))))
 · rintro a w ⟨_,_,_,_,_,_,_,_,h⟩
   exact nS h
 · rintro Av a Aw ⟨Ae,Ad,Aa,Af,Ac,k,m,Ag,h⟩
   rw [d_laws_toSpotS_L1_s] at h
   unfold d_laws_toSpotS_L1_B at h
   refine wp_seq (wr (pN 2 k z fun a k=>sv k z (r_len (α:=Spot) Ab k underlying50 z z) fun a k=>pN 1 k z fun a k=>nn (cI h k z (fun Aq h=>?_) fun Aq h=>?_)))
   · refine wp_skip (nm_then ?_)
     refine wp_seq (wp_block (wp_region_lit (pN 4 k z fun a k=>oE h fun Ar Ai h=>sv k z (r_ixa Ab Ai k ts50 z z z) fun a k=>sv k z (r_lde Ab (m.a00 (Enc.rd_lt Ab)) Ai ta200 k z z) fun a k=>oE h fun Aj Ak h=>cE k m call219 z z z (c_laws_toSpot fu (Ar:Spot)  Ak) fun Au e a k m=>oE h fun At Ah h=>sv k z (r_ixa (Enc.ow_rd Ag) Ah k ts56 z z z) fun a k=>s_ste (α:=Spot) (sz:=4) (y:=Aj) sizeOf89 Ah m 0 Ag 0 k z z z z z z z z z z z z fun Am a k e m Ao=>wpList_nil (nm_block (nm_then ?_)))))
     refine wp_region_lit (pN 3 k z fun a k=>nn ?_)
     exact ⟨setx Ae Ac Aj,Ad,Aa,Am,w64 (Ac + 1),k.keep [0,3,4] z,m.sel [0] z (by decide),Ao,h⟩
   refine wp_exit (ex_then (ex_then (ex_same (nm_then ?_))))
   refine wr (pN 2 k z fun a k=>nn (wp_ret ?_))
   cases h
   exact finR1 k z (RV.tmp k z) ⟨_,Aa,z,m.ext,(Enc.ow_agr Ag (m.a 0 z)),(m.fresh 0 z)⟩
 exact ⟨x5,As,[g7],w9,0,k.keep [0,3,4] z,m.sel [0] z (by decide),Al,h⟩
theorem c_laws_toPlan (fu:Nat) {w0:World} (a1:Plan) {Aj:List Value} {F3:List Nat} (Au:rd w0 F3 Aj a1) {r:Plan}
    (h:d_laws_toPlan fu a1 = some r) :
    Calls Tryz.prog 34 #[.agg Aj.toArray] w0 fun e w=>∃ (Af:List Value) (G0:List Nat),e = .returned (.agg Af.toArray) ∧ Ext [] w0 w ∧ ow w G0 Af r ∧ (∀ b ∈ G0,w0.heap.size ≤ b):=by
 refine enter (vs:=[_]) func34 z ntmps34 z fun a k=>?_
 have m:=St.start w0
 obtain ⟨v5,F6,v7,F8,rfl,rfl,Ad,Ae⟩:=Au
 unfold d_laws_toPlan at h
 refine wr (s_box (cs:=[v5,v7]) m k z z z z z z fun Bb Az a k m e Ak=>s_alloc (cs:=[.slice none 0 0,.slice none 0 0]) m k zeroValue58 z z z z z fun Be Bg a k m e Ao=>nn (wr (s_alloc (cs:=[.slice none 0 0,.slice none 0 0]) m k zeroValue58 z z z z z fun Ba Ax a k m e At=>nn (wr (sv k z (r_fa fa52_0 k z z) fun a k=>sv k z (r_ldb t149 m 2 Ak 0 k z z z z z) fun a k=>oE h fun Bh Aq h=>s_call k call113 z z z z z (c_laws_toCartonS fu _ (Enc.rd_agr Ad (m.a00 (Enc.rd_lt Ad))) Aq) fun Bk Bj hR=>?_)))))
 obtain ⟨Ac,Ah,rfl,e,Ab,Am⟩:=hR
 refine ⟨_,z,fun a k=>?_⟩
 have m:=m.new e Ah (fun b hb=>⟨Am b hb,Enc.rd_lt (Enc.ow_rd Ab) b hb⟩) (Enc.ow_nd Ab)
 refine sv k z (r_fa fa58_0 k z z) fun a k=>s_stb1 (cs':=[Ac,.slice none 0 0]) sizeOf55 m 1 At 0 k (rd_c (Enc.ow_rd Ab)) (rd_o (Enc.ow_rd Ab)) z z z z z z z z z fun Ay a k e m Al=>nn (wr (sv k z (r_fa fa52_1 k z z) fun a k=>sv k z (r_ldb t150 m 3 Ak 1 k z z z z z) fun a k=>oE h fun Aw Ap h=>s_call k call114 z z z z z (c_laws_toSpotS fu _ (Enc.rd_agr Ae (m.a00 (Enc.rd_lt Ae))) Ap) fun Bc Bd hR=>?_))
 obtain ⟨Ai,Ag,rfl,e,Aa,As⟩:=hR
 refine ⟨_,z,fun a k=>?_⟩
 have m:=m.new e Ag (fun b hb=>⟨As b hb,Enc.rd_lt (Enc.ow_rd Aa) b hb⟩) (Enc.ow_nd Aa)
 refine sv k z (r_fa fa58_1 k z z) fun a k=>s_stb1 (cs':=[Ac,Ai]) sizeOf56 m 2 Al 1 k (rd_c (Enc.ow_rd Aa)) (rd_o (Enc.ow_rd Aa)) z z z z z z z z z fun Bf a k e m Av=>nn (wr (sv k z (r_ldB ta58 m 2 Av 0 k z z z z z z) fun a k=>s_stb (cs':=[Ac,Ai]) sizeOf58 m 3 Ao 0 k z z z z z z z z z z (allc (rd_o (Enc.ow_rd Ab)) (allc (rd_o (Enc.ow_rd Aa)) alln)) fun Bi a k e m Ar=>nn (wp_ret ?_)))
 cases h
 exact finR1 k z (RV.cA k z ta58 (Ar.at (m.a 3 z) 0 2 z z z) z) ⟨_,_,z,m.ext,⟨_,Ah,_,Ag,z,z,(Enc.ow_agr Ab (m.a 1 z)),(Enc.ow_agr Aa (m.a 0 z)),by simpa [fps] using (m.sel [1,0] z (by decide)).nd⟩,(app_fresh (m.fresh 1 z) (m.fresh 0 z))⟩
theorem c_laws_eqPallet (fu:Nat) {w0:World} (a1:Pallet) (b2:Pallet)  {r:Bool}
    (h:d_laws_eqPallet fu a1 b2 = some r) :
    Calls Tryz.prog 85 #[.agg (Flat.e (a1)).toArray,.agg (Flat.e (b2)).toArray] w0 fun e w=>e = .returned (.bool (r)) ∧ Ext [] w0 w:=by
 refine enter (vs:=[_,_]) func85 z ntmps85 z fun a k=>?_
 have m:=St.start w0
 unfold d_laws_eqPallet at h
 refine wr (s_box (cs:=[I a1.fW,I a1.fD,I a1.fH,I a1.fGram]) m k z z z z z z fun b3 w5 a k m e Aa=>s_box (cs:=[I b2.fW,I b2.fD,I b2.fH,I b2.fGram]) m k z z z z z z fun b6 w9 a k m e Ab=>pN 1 k z fun a k=>nn (wp_seq (wr (sv k z (r_fa fa33_0 k z z) fun a k=>sv k z (r_ldb t13 m 1 Aa 0 k z z z z z) fun a k=>sv k z (r_fa fa33_0 k z z) fun a k=>sv k z (r_ldb t13 m 0 Ab 0 k z z z z z) fun a k=>pN 1 k z fun a k=>nn (cI h k z (fun Ac h=>?_) fun Ac h=>?_)))))
 · refine wr (pN 1 k z fun a k=>nn (wp_ret (rt_then ?_)))
   refine fS h k m z z
 refine wp_skip (nm_then ?_)
 refine wp_seq (wr (sv k z (r_fa fa33_1 k z z) fun a k=>sv k z (r_ldb t13 m 1 Aa 1 k z z z z z) fun a k=>sv k z (r_fa fa33_1 k z z) fun a k=>sv k z (r_ldb t13 m 0 Ab 1 k z z z z z) fun a k=>pN 1 k z fun a k=>nn (cI h k z (fun Ae h=>?_) fun Ae h=>?_)))
 · refine wr (pN 1 k z fun a k=>nn (wp_ret (rt_then ?_)))
   refine fS h k m z z
 refine wp_skip (nm_then ?_)
 refine wp_seq (wr (sv k z (r_fa fa33_2 k z z) fun a k=>sv k z (r_ldb t13 m 1 Aa 2 k z z z z z) fun a k=>sv k z (r_fa fa33_2 k z z) fun a k=>sv k z (r_ldb t13 m 0 Ab 2 k z z z z z) fun a k=>pN 1 k z fun a k=>nn (cI h k z (fun Af h=>?_) fun Af h=>?_)))
 · refine wr (pN 1 k z fun a k=>nn (wp_ret (rt_then ?_)))
   refine fS h k m z z
 refine wp_skip (nm_then ?_)
 refine wp_seq (wr (sv k z (r_fa fa33_3 k z z) fun a k=>sv k z (r_ldb t13 m 1 Aa 3 k z z z z z) fun a k=>sv k z (r_fa fa33_3 k z z) fun a k=>sv k z (r_ldb t13 m 0 Ab 3 k z z z z z) fun a k=>pN 1 k z fun a k=>nn (cI h k z (fun Ad h=>?_) fun Ad h=>?_)))
 · refine wr (pN 1 k z fun a k=>nn (wp_ret (rt_then ?_)))
   refine fS h k m z z
 refine wp_skip (nm_then ?_)
 refine wr (pN 1 k z fun a k=>nn (wp_ret (fS h k m z z)))
theorem c_laws_eqPair (fu:Nat) {w0:World} (a1:Pair) (b2:Pair)  {r:Bool}
    (h:d_laws_eqPair fu a1 b2 = some r) :
    Calls Tryz.prog 195 #[.agg (Flat.e (a1)).toArray,.agg (Flat.e (b2)).toArray] w0 fun e w=>e = .returned (.bool (r)) ∧ Ext [] w0 w:=by
 refine enter (vs:=[_,_]) func195 z ntmps195 z fun a k=>?_
 have m:=St.start w0
 unfold d_laws_eqPair at h
 refine wr (s_box (cs:=[I a1.fA,I a1.fB]) m k z z z z z z fun b3 w5 a k m e Aa=>s_box (cs:=[I b2.fA,I b2.fB]) m k z z z z z z fun b6 w9 a k m e Ab=>pN 1 k z fun a k=>nn (wp_seq (wr (sv k z (r_fa fa180_0 k z z) fun a k=>sv k z (r_ldb t13 m 1 Aa 0 k z z z z z) fun a k=>sv k z (r_fa fa180_0 k z z) fun a k=>sv k z (r_ldb t13 m 0 Ab 0 k z z z z z) fun a k=>pN 1 k z fun a k=>nn (cI h k z (fun Ac h=>?_) fun Ac h=>?_)))))
 · refine wr (pN 1 k z fun a k=>nn (wp_ret (rt_then ?_)))
   refine fS h k m z z
 refine wp_skip (nm_then ?_)
 refine wp_seq (wr (sv k z (r_fa fa180_1 k z z) fun a k=>sv k z (r_ldb t13 m 1 Aa 1 k z z z z z) fun a k=>sv k z (r_fa fa180_1 k z z) fun a k=>sv k z (r_ldb t13 m 0 Ab 1 k z z z z z) fun a k=>pN 1 k z fun a k=>nn (cI h k z (fun Ad h=>?_) fun Ad h=>?_)))
 · refine wr (pN 1 k z fun a k=>nn (wp_ret (rt_then ?_)))
   refine fS h k m z z
 refine wp_skip (nm_then ?_)
 refine wr (pN 1 k z fun a k=>nn (wp_ret (fS h k m z z)))
theorem c_laws_eqPairS (fu:Nat) {w0:World} (a1:List Pair) (b5:List Pair) {v2:Value} {F3:List Nat} (Aa:rd w0 F3 [v2] a1) {v6:Value} {F7:List Nat} (Ab:rd w0 F7 [v6] b5) {r:Bool}
    (h:d_laws_eqPairS fu a1 b5 = some r) :
    Calls Tryz.prog 86 #[v2,v6] w0 fun e w=>e = .returned (.bool (r)) ∧ Ext [] w0 w:=by
 refine enter (vs:=[_,_]) func86 z ntmps86 z fun a k=>?_
 have m:=St.start w0
 unfold d_laws_eqPairS at h
 refine wr (pN 1 k z fun a k=>nn (wp_seq (wr (pN 1 k z fun a k=>sv k z (r_len (α:=Pair) Aa k underlying34 z z) fun a k=>pN 1 k z fun a k=>sv k z (r_len (α:=Pair) Ab k underlying34 z z) fun a k=>pN 1 k z fun a k=>nn (cI h k z (fun Ak h=>?_) fun Ak h=>?_)))))
 · refine wr (pN 1 k z fun a k=>nn (wp_ret (rt_then ?_)))
   refine fS h k m z z
 refine wp_skip (nm_then ?_)
 refine wp_seq (wr (pN 1 k z fun a k=>nn (wp_block (c_loop (fun n a w=>∃ (Ac:Int),K 27 [(0,v2),(1,v6),(5,I Ac)] a ∧ St [] w0 w [] ∧ d_laws_eqPairS_L1 fu a1 b5 n Ac = some r) ?_ ?_ fu _ _ ?_))))
 · rintro a w ⟨_,_,_,h⟩
   exact nS h
 · rintro Ap a Ao ⟨Ac,k,m,h⟩
   rw [d_laws_eqPairS_L1_s] at h
   unfold d_laws_eqPairS_L1_B at h
   refine wp_seq (wr (pN 2 k z fun a k=>sv k z (r_len (α:=Pair) Aa k underlying34 z z) fun a k=>pN 1 k z fun a k=>nn (cI h k z (fun Ai h=>?_) fun Ai h=>?_)))
   · refine wp_skip (nm_then ?_)
     refine wp_seq (wp_block (wp_seq (d_go [] mixo m z fun Ag hMd=>?_)))
     have m:=hMd
     have s:=Ext.refl ([]:List Nat) Ag
     refine dN [0,1,4,5] 4 z k (by kernel_rfl) z s (fun _ _ _ _ _=>id) fun a k=>oE h fun Al Ad h=>dt k 2 z (by kernel_rfl) z s (fun _ _ _=>id) (fun w s=>r_ixa Aa Ad k ts34 z z z) fun a k=>dt k 3 z (by kernel_rfl) z s (fun _ _ _=>id) (fun w s=>r_lde Aa ((hMd.step s).a00 (Enc.rd_lt Aa)) Ad ta180 k z z) fun a k=>oE h fun Aj Ae h=>dt k 6 z (by kernel_rfl) z s (fun _ _ _=>id) (fun w s=>r_ixa Ab Ae k ts34 z z z) fun a k=>dt k 7 z (by kernel_rfl) z s (fun _ _ _=>id) (fun w s=>r_lde Ab ((hMd.step s).a00 (Enc.rd_lt Ab)) Ae ta180 k z z) fun a k=>d_one 8 (by kernel_rfl) z (oE h fun Am Af h=>cE k m call195 z z z (c_laws_eqPair fu (Al:Pair) (Aj:Pair)  Af) fun Aq e a k m=>?_)
     have s:=s.trans e (by simp)
     refine wpList_nil ⟨s,?_⟩
     refine dN [9] 1 z k (by kernel_rfl) z s (fun _ _ _ _ _=>id) fun a k=>d_done (by kernel_rfl) ((nm_then ?_))
     refine cI h k z (fun Ah h=>?_) fun Ah h=>?_
     · refine wr (pN 1 k z fun a k=>nn (wp_ret (rt_block (rt_then (rt_then (rt_block (rt_then ?_)))))))
       refine fS h k m z z
     refine wp_skip (nm_block (nm_then ?_))
     refine wp_region_lit (pN 3 k z fun a k=>nn ?_)
     exact ⟨w64 (Ac + 1),k.keep [0,1,5] z,m.sel [] z (by decide),h⟩
   refine wp_exit (ex_then (ex_then (ex_same (nm_then ?_))))
   refine wr (pN 1 k z fun a k=>nn (wp_ret (fS h k m z z)))
 exact ⟨0,k.keep [0,1,5] z,m.sel [] z (by decide),h⟩
theorem c_laws_eqType (fu:Nat) {w0:World} (a1:Typ) (b2:Typ)  {r:Bool}
    (h:d_laws_eqType fu a1 b2 = some r) :
    Calls Tryz.prog 196 #[.agg (Flat.e (a1)).toArray,.agg (Flat.e (b2)).toArray] w0 fun e w=>e = .returned (.bool (r)) ∧ Ext [] w0 w:=by
 refine enter (vs:=[_,_]) func196 z ntmps196 z fun a k=>?_
 have m:=St.start w0
 unfold d_laws_eqType at h
 refine wr (s_box (cs:=[I a1.fId,I a1.fW,I a1.fH,I a1.fD,I a1.fTare,I a1.fGram,I a1.fCost]) m k z z z z z z fun b3 w5 a k m e Aa=>s_box (cs:=[I b2.fId,I b2.fW,I b2.fH,I b2.fD,I b2.fTare,I b2.fGram,I b2.fCost]) m k z z z z z z fun b6 w9 a k m e Ab=>pN 1 k z fun a k=>nn (wp_seq (wr (sv k z (r_fa fa79_0 k z z) fun a k=>sv k z (r_ldb t13 m 1 Aa 0 k z z z z z) fun a k=>sv k z (r_fa fa79_0 k z z) fun a k=>sv k z (r_ldb t13 m 0 Ab 0 k z z z z z) fun a k=>pN 1 k z fun a k=>nn (cI h k z (fun Ad h=>?_) fun Ad h=>?_)))))
 · refine wr (pN 1 k z fun a k=>nn (wp_ret (rt_then ?_)))
   refine fS h k m z z
 refine wp_skip (nm_then ?_)
 refine wp_seq (wr (sv k z (r_fa fa79_1 k z z) fun a k=>sv k z (r_ldb t13 m 1 Aa 1 k z z z z z) fun a k=>sv k z (r_fa fa79_1 k z z) fun a k=>sv k z (r_ldb t13 m 0 Ab 1 k z z z z z) fun a k=>pN 1 k z fun a k=>nn (cI h k z (fun Ag h=>?_) fun Ag h=>?_)))
 · refine wr (pN 1 k z fun a k=>nn (wp_ret (rt_then ?_)))
   refine fS h k m z z
 refine wp_skip (nm_then ?_)
 refine wp_seq (wr (sv k z (r_fa fa79_2 k z z) fun a k=>sv k z (r_ldb t13 m 1 Aa 2 k z z z z z) fun a k=>sv k z (r_fa fa79_2 k z z) fun a k=>sv k z (r_ldb t13 m 0 Ab 2 k z z z z z) fun a k=>pN 1 k z fun a k=>nn (cI h k z (fun Ah h=>?_) fun Ah h=>?_)))
 · refine wr (pN 1 k z fun a k=>nn (wp_ret (rt_then ?_)))
   refine fS h k m z z
 refine wp_skip (nm_then ?_)
 refine wp_seq (wr (sv k z (r_fa fa79_3 k z z) fun a k=>sv k z (r_ldb t13 m 1 Aa 3 k z z z z z) fun a k=>sv k z (r_fa fa79_3 k z z) fun a k=>sv k z (r_ldb t13 m 0 Ab 3 k z z z z z) fun a k=>pN 1 k z fun a k=>nn (cI h k z (fun Af h=>?_) fun Af h=>?_)))
 · refine wr (pN 1 k z fun a k=>nn (wp_ret (rt_then ?_)))
   refine fS h k m z z
 refine wp_skip (nm_then ?_)
 refine wp_seq (wr (sv k z (r_fa fa79_4 k z z) fun a k=>sv k z (r_ldb t13 m 1 Aa 4 k z z z z z) fun a k=>sv k z (r_fa fa79_4 k z z) fun a k=>sv k z (r_ldb t13 m 0 Ab 4 k z z z z z) fun a k=>pN 1 k z fun a k=>?_))
 have k:=k.keep [2,3,29] z
 refine nn (cI h k z (fun Ae h=>?_) fun Ae h=>?_)
 · refine wr (pN 1 k z fun a k=>nn (wp_ret (rt_then ?_)))
   refine fS h k m z z
 refine wp_skip (nm_then ?_)
 refine wp_seq (wr (sv k z (r_fa fa79_5 k z z) fun a k=>sv k z (r_ldb t13 m 1 Aa 5 k z z z z z) fun a k=>sv k z (r_fa fa79_5 k z z) fun a k=>sv k z (r_ldb t13 m 0 Ab 5 k z z z z z) fun a k=>pN 1 k z fun a k=>nn (cI h k z (fun Ac h=>?_) fun Ac h=>?_)))
 · refine wr (pN 1 k z fun a k=>nn (wp_ret (rt_then ?_)))
   refine fS h k m z z
 refine wp_skip (nm_then ?_)
 refine wp_seq (wr (sv k z (r_fa fa79_6 k z z) fun a k=>sv k z (r_ldb t13 m 1 Aa 6 k z z z z z) fun a k=>sv k z (r_fa fa79_6 k z z) fun a k=>sv k z (r_ldb t13 m 0 Ab 6 k z z z z z) fun a k=>pN 1 k z fun a k=>nn (cI h k z (fun Ai h=>?_) fun Ai h=>?_)))
 · refine wr (pN 1 k z fun a k=>nn (wp_ret (rt_then ?_)))
   refine fS h k m z z
 refine wp_skip (nm_then ?_)
 refine wr (pN 1 k z fun a k=>nn (wp_ret (fS h k m z z)))
theorem c_laws_eqTypeS (fu:Nat) {w0:World} (a1:List Typ) (b5:List Typ) {v2:Value} {F3:List Nat} (Aa:rd w0 F3 [v2] a1) {v6:Value} {F7:List Nat} (Ab:rd w0 F7 [v6] b5) {r:Bool}
    (h:d_laws_eqTypeS fu a1 b5 = some r) :
    Calls Tryz.prog 87 #[v2,v6] w0 fun e w=>e = .returned (.bool (r)) ∧ Ext [] w0 w:=by
 refine enter (vs:=[_,_]) func87 z ntmps87 z fun a k=>?_
 have m:=St.start w0
 unfold d_laws_eqTypeS at h
 refine wr (pN 1 k z fun a k=>nn (wp_seq (wr (pN 1 k z fun a k=>sv k z (r_len (α:=Typ) Aa k underlying35 z z) fun a k=>pN 1 k z fun a k=>sv k z (r_len (α:=Typ) Ab k underlying35 z z) fun a k=>pN 1 k z fun a k=>nn (cI h k z (fun Ak h=>?_) fun Ak h=>?_)))))
 · refine wr (pN 1 k z fun a k=>nn (wp_ret (rt_then ?_)))
   refine fS h k m z z
 refine wp_skip (nm_then ?_)
 refine wp_seq (wr (pN 1 k z fun a k=>nn (wp_block (c_loop (fun n a w=>∃ (Ac:Int),K 27 [(0,v2),(1,v6),(5,I Ac)] a ∧ St [] w0 w [] ∧ d_laws_eqTypeS_L1 fu a1 b5 n Ac = some r) ?_ ?_ fu _ _ ?_))))
 · rintro a w ⟨_,_,_,h⟩
   exact nS h
 · rintro Ap a Ao ⟨Ac,k,m,h⟩
   rw [d_laws_eqTypeS_L1_s] at h
   unfold d_laws_eqTypeS_L1_B at h
   refine wp_seq (wr (pN 2 k z fun a k=>sv k z (r_len (α:=Typ) Aa k underlying35 z z) fun a k=>pN 1 k z fun a k=>nn (cI h k z (fun Ai h=>?_) fun Ai h=>?_)))
   · refine wp_skip (nm_then ?_)
     refine wp_seq (wp_block (wp_seq (d_go [] mixo m z fun Ag hMd=>?_)))
     have m:=hMd
     have s:=Ext.refl ([]:List Nat) Ag
     refine dN [0,1,4,5] 4 z k (by kernel_rfl) z s (fun _ _ _ _ _=>id) fun a k=>oE h fun Al Ad h=>dt k 2 z (by kernel_rfl) z s (fun _ _ _=>id) (fun w s=>r_ixa Aa Ad k ts35 z z z) fun a k=>dt k 3 z (by kernel_rfl) z s (fun _ _ _=>id) (fun w s=>r_lde Aa ((hMd.step s).a00 (Enc.rd_lt Aa)) Ad ta79 k z z) fun a k=>oE h fun Aj Ae h=>dt k 6 z (by kernel_rfl) z s (fun _ _ _=>id) (fun w s=>r_ixa Ab Ae k ts35 z z z) fun a k=>dt k 7 z (by kernel_rfl) z s (fun _ _ _=>id) (fun w s=>r_lde Ab ((hMd.step s).a00 (Enc.rd_lt Ab)) Ae ta79 k z z) fun a k=>d_one 8 (by kernel_rfl) z (oE h fun Am Af h=>cE k m call196 z z z (c_laws_eqType fu (Al:Typ) (Aj:Typ)  Af) fun Aq e a k m=>?_)
     have s:=s.trans e (by simp)
     refine wpList_nil ⟨s,?_⟩
     refine dN [9] 1 z k (by kernel_rfl) z s (fun _ _ _ _ _=>id) fun a k=>d_done (by kernel_rfl) ((nm_then ?_))
     refine cI h k z (fun Ah h=>?_) fun Ah h=>?_
     · refine wr (pN 1 k z fun a k=>nn (wp_ret (rt_block (rt_then (rt_then (rt_block (rt_then ?_)))))))
       refine fS h k m z z
     refine wp_skip (nm_block (nm_then ?_))
     refine wp_region_lit (pN 3 k z fun a k=>nn ?_)
     exact ⟨w64 (Ac + 1),k.keep [0,1,5] z,m.sel [] z (by decide),h⟩
   refine wp_exit (ex_then (ex_then (ex_same (nm_then ?_))))
   refine wr (pN 1 k z fun a k=>nn (wp_ret (fS h k m z z)))
 exact ⟨0,k.keep [0,1,5] z,m.sel [] z (by decide),h⟩
theorem c_laws_eqItem (fu:Nat) {w0:World} (a1:Item) (b2:Item)  {r:Bool}
    (h:d_laws_eqItem fu a1 b2 = some r) :
    Calls Tryz.prog 197 #[.agg (Flat.e (a1)).toArray,.agg (Flat.e (b2)).toArray] w0 fun e w=>e = .returned (.bool (r)) ∧ Ext [] w0 w:=by
 refine enter (vs:=[_,_]) func197 z ntmps197 z fun a k=>?_
 have m:=St.start w0
 unfold d_laws_eqItem at h
 refine wr (s_box (cs:=[I a1.fId,I a1.fW,I a1.fH,I a1.fD,I a1.fGram,I a1.fClass,I a1.fCount]) m k z z z z z z fun b3 w5 a k m e Aa=>s_box (cs:=[I b2.fId,I b2.fW,I b2.fH,I b2.fD,I b2.fGram,I b2.fClass,I b2.fCount]) m k z z z z z z fun b6 w9 a k m e Ab=>pN 1 k z fun a k=>nn (wp_seq (wr (sv k z (r_fa fa158_0 k z z) fun a k=>sv k z (r_ldb t13 m 1 Aa 0 k z z z z z) fun a k=>sv k z (r_fa fa158_0 k z z) fun a k=>sv k z (r_ldb t13 m 0 Ab 0 k z z z z z) fun a k=>pN 1 k z fun a k=>nn (cI h k z (fun Ad h=>?_) fun Ad h=>?_)))))
 · refine wr (pN 1 k z fun a k=>nn (wp_ret (rt_then ?_)))
   refine fS h k m z z
 refine wp_skip (nm_then ?_)
 refine wp_seq (wr (sv k z (r_fa fa158_1 k z z) fun a k=>sv k z (r_ldb t13 m 1 Aa 1 k z z z z z) fun a k=>sv k z (r_fa fa158_1 k z z) fun a k=>sv k z (r_ldb t13 m 0 Ab 1 k z z z z z) fun a k=>pN 1 k z fun a k=>nn (cI h k z (fun Ag h=>?_) fun Ag h=>?_)))
 · refine wr (pN 1 k z fun a k=>nn (wp_ret (rt_then ?_)))
   refine fS h k m z z
 refine wp_skip (nm_then ?_)
 refine wp_seq (wr (sv k z (r_fa fa158_2 k z z) fun a k=>sv k z (r_ldb t13 m 1 Aa 2 k z z z z z) fun a k=>sv k z (r_fa fa158_2 k z z) fun a k=>sv k z (r_ldb t13 m 0 Ab 2 k z z z z z) fun a k=>pN 1 k z fun a k=>nn (cI h k z (fun Ah h=>?_) fun Ah h=>?_)))
 · refine wr (pN 1 k z fun a k=>nn (wp_ret (rt_then ?_)))
   refine fS h k m z z
 refine wp_skip (nm_then ?_)
 refine wp_seq (wr (sv k z (r_fa fa158_3 k z z) fun a k=>sv k z (r_ldb t13 m 1 Aa 3 k z z z z z) fun a k=>sv k z (r_fa fa158_3 k z z) fun a k=>sv k z (r_ldb t13 m 0 Ab 3 k z z z z z) fun a k=>pN 1 k z fun a k=>nn (cI h k z (fun Af h=>?_) fun Af h=>?_)))
 · refine wr (pN 1 k z fun a k=>nn (wp_ret (rt_then ?_)))
   refine fS h k m z z
 refine wp_skip (nm_then ?_)
 refine wp_seq (wr (sv k z (r_fa fa158_4 k z z) fun a k=>sv k z (r_ldb t13 m 1 Aa 4 k z z z z z) fun a k=>sv k z (r_fa fa158_4 k z z) fun a k=>sv k z (r_ldb t13 m 0 Ab 4 k z z z z z) fun a k=>pN 1 k z fun a k=>?_))
 have k:=k.keep [2,3,29] z
 refine nn (cI h k z (fun Ae h=>?_) fun Ae h=>?_)
 · refine wr (pN 1 k z fun a k=>nn (wp_ret (rt_then ?_)))
   refine fS h k m z z
 refine wp_skip (nm_then ?_)
 refine wp_seq (wr (sv k z (r_fa fa158_5 k z z) fun a k=>sv k z (r_ldb t13 m 1 Aa 5 k z z z z z) fun a k=>sv k z (r_fa fa158_5 k z z) fun a k=>sv k z (r_ldb t13 m 0 Ab 5 k z z z z z) fun a k=>pN 1 k z fun a k=>nn (cI h k z (fun Ac h=>?_) fun Ac h=>?_)))
 · refine wr (pN 1 k z fun a k=>nn (wp_ret (rt_then ?_)))
   refine fS h k m z z
 refine wp_skip (nm_then ?_)
 refine wp_seq (wr (sv k z (r_fa fa158_6 k z z) fun a k=>sv k z (r_ldb t13 m 1 Aa 6 k z z z z z) fun a k=>sv k z (r_fa fa158_6 k z z) fun a k=>sv k z (r_ldb t13 m 0 Ab 6 k z z z z z) fun a k=>pN 1 k z fun a k=>nn (cI h k z (fun Ai h=>?_) fun Ai h=>?_)))
 · refine wr (pN 1 k z fun a k=>nn (wp_ret (rt_then ?_)))
   refine fS h k m z z
 refine wp_skip (nm_then ?_)
 refine wr (pN 1 k z fun a k=>nn (wp_ret (fS h k m z z)))
theorem c_laws_eqItemS (fu:Nat) {w0:World} (a1:List Item) (b5:List Item) {v2:Value} {F3:List Nat} (Aa:rd w0 F3 [v2] a1) {v6:Value} {F7:List Nat} (Ab:rd w0 F7 [v6] b5) {r:Bool}
    (h:d_laws_eqItemS fu a1 b5 = some r) :
    Calls Tryz.prog 88 #[v2,v6] w0 fun e w=>e = .returned (.bool (r)) ∧ Ext [] w0 w:=by
 refine enter (vs:=[_,_]) func88 z ntmps88 z fun a k=>?_
 have m:=St.start w0
 unfold d_laws_eqItemS at h
 refine wr (pN 1 k z fun a k=>nn (wp_seq (wr (pN 1 k z fun a k=>sv k z (r_len (α:=Item) Aa k underlying36 z z) fun a k=>pN 1 k z fun a k=>sv k z (r_len (α:=Item) Ab k underlying36 z z) fun a k=>pN 1 k z fun a k=>nn (cI h k z (fun Ak h=>?_) fun Ak h=>?_)))))
 · refine wr (pN 1 k z fun a k=>nn (wp_ret (rt_then ?_)))
   refine fS h k m z z
 refine wp_skip (nm_then ?_)
 refine wp_seq (wr (pN 1 k z fun a k=>nn (wp_block (c_loop (fun n a w=>∃ (Ac:Int),K 27 [(0,v2),(1,v6),(5,I Ac)] a ∧ St [] w0 w [] ∧ d_laws_eqItemS_L1 fu a1 b5 n Ac = some r) ?_ ?_ fu _ _ ?_))))
 · rintro a w ⟨_,_,_,h⟩
   exact nS h
 · rintro Ap a Ao ⟨Ac,k,m,h⟩
   rw [d_laws_eqItemS_L1_s] at h
   unfold d_laws_eqItemS_L1_B at h
   refine wp_seq (wr (pN 2 k z fun a k=>sv k z (r_len (α:=Item) Aa k underlying36 z z) fun a k=>pN 1 k z fun a k=>nn (cI h k z (fun Ai h=>?_) fun Ai h=>?_)))
   · refine wp_skip (nm_then ?_)
     refine wp_seq (wp_block (wp_seq (d_go [] mixo m z fun Ag hMd=>?_)))
     have m:=hMd
     have s:=Ext.refl ([]:List Nat) Ag
     refine dN [0,1,4,5] 4 z k (by kernel_rfl) z s (fun _ _ _ _ _=>id) fun a k=>oE h fun Al Ad h=>dt k 2 z (by kernel_rfl) z s (fun _ _ _=>id) (fun w s=>r_ixa Aa Ad k ts36 z z z) fun a k=>dt k 3 z (by kernel_rfl) z s (fun _ _ _=>id) (fun w s=>r_lde Aa ((hMd.step s).a00 (Enc.rd_lt Aa)) Ad ta158 k z z) fun a k=>oE h fun Aj Ae h=>dt k 6 z (by kernel_rfl) z s (fun _ _ _=>id) (fun w s=>r_ixa Ab Ae k ts36 z z z) fun a k=>dt k 7 z (by kernel_rfl) z s (fun _ _ _=>id) (fun w s=>r_lde Ab ((hMd.step s).a00 (Enc.rd_lt Ab)) Ae ta158 k z z) fun a k=>d_one 8 (by kernel_rfl) z (oE h fun Am Af h=>cE k m call197 z z z (c_laws_eqItem fu (Al:Item) (Aj:Item)  Af) fun Aq e a k m=>?_)
     have s:=s.trans e (by simp)
     refine wpList_nil ⟨s,?_⟩
     refine dN [9] 1 z k (by kernel_rfl) z s (fun _ _ _ _ _=>id) fun a k=>d_done (by kernel_rfl) ((nm_then ?_))
     refine cI h k z (fun Ah h=>?_) fun Ah h=>?_
     · refine wr (pN 1 k z fun a k=>nn (wp_ret (rt_block (rt_then (rt_then (rt_block (rt_then ?_)))))))
       refine fS h k m z z
     refine wp_skip (nm_block (nm_then ?_))
     refine wp_region_lit (pN 3 k z fun a k=>nn ?_)
     exact ⟨w64 (Ac + 1),k.keep [0,1,5] z,m.sel [] z (by decide),h⟩
   refine wp_exit (ex_then (ex_then (ex_same (nm_then ?_))))
   refine wr (pN 1 k z fun a k=>nn (wp_ret (fS h k m z z)))
 exact ⟨0,k.keep [0,1,5] z,m.sel [] z (by decide),h⟩
theorem c_laws_eqRequest (fu:Nat) {w0:World} (a1:Request) (b5:Request) {Ai:List Value} {F3:List Nat} (Bb:rd w0 F3 Ai a1) {Ag:List Value} {F7:List Nat} (As:rd w0 F7 Ag b5) {r:Bool}
    (h:d_laws_eqRequest fu a1 b5 = some r) :
    Calls Tryz.prog 21 #[.agg Ai.toArray,.agg Ag.toArray] w0 fun e w=>e = .returned (.bool (r)) ∧ Ext [] w0 w:=by
 refine enter (vs:=[_,_]) func21 z ntmps21 z fun a k=>?_
 have m:=St.start w0
 obtain ⟨v9,Bf,Bc,Bq,Ba,Bl,rfl,rfl,Aj,Ad,Ah⟩:=Bb
 obtain ⟨Ak,Bj,Ar,Bg,At,Bd,rfl,rfl,Af,Ae,Ac⟩:=As
 unfold d_laws_eqRequest at h
 refine wr (s_box (cs:=[I a1.fWay,I a1.fPallet.fW,I a1.fPallet.fD,I a1.fPallet.fH,I a1.fPallet.fGram,I a1.fClasses,v9,Bc,I a1.fMaster,Ba]) m k z z z z z z fun Br Bh a k m e Aa=>s_box (cs:=[I b5.fWay,I b5.fPallet.fW,I b5.fPallet.fD,I b5.fPallet.fH,I b5.fPallet.fGram,I b5.fClasses,Ak,Ar,I b5.fMaster,At]) m k z z z z z z fun Bu Bt a k m e Ab=>pN 1 k z fun a k=>nn (wp_seq (wr (sv k z (r_fa fa38_0 k z z) fun a k=>sv k z (r_ldb t13 m 1 Aa 0 k z z z z z) fun a k=>sv k z (r_fa fa38_0 k z z) fun a k=>sv k z (r_ldb t13 m 0 Ab 0 k z z z z z) fun a k=>pN 1 k z fun a k=>nn ?_))))
 refine cI h k z (fun Ax h=>?_) fun Ax h=>?_
 · refine wr (pN 1 k z fun a k=>nn (wp_ret (rt_then ?_)))
   refine fS h k m z z
 refine wp_skip (nm_then ?_)
 refine wp_seq (wr (sv k z (r_fa fa38_1 k z z) fun a k=>sv k z (r_ldB ta33 m 1 Aa 1 k z z z z z z) fun a k=>sv k z (r_fa fa38_1 k z z) fun a k=>sv k z (r_ldB ta33 m 0 Ab 1 k z z z z z z) fun a k=>oE h fun Be Aw h=>cE k m call85 z z z (c_laws_eqPallet fu (a1.fPallet:Pallet) (b5.fPallet:Pallet)  Aw) fun Bi e a k m=>pN 1 k z fun a k=>nn (cI h k z (fun Az h=>?_) fun Az h=>?_)))
 · refine wr (pN 1 k z fun a k=>nn (wp_ret (rt_then ?_)))
   refine fS h k m z z
 refine wp_skip (nm_then ?_)
 refine wp_seq (wr (sv k z (r_fa fa38_2 k z z) fun a k=>sv k z (r_ldb t13 m 1 Aa 5 k z z z z z) fun a k=>sv k z (r_fa fa38_2 k z z) fun a k=>sv k z (r_ldb t13 m 0 Ab 5 k z z z z z) fun a k=>pN 1 k z fun a k=>nn (cI h k z (fun Al h=>?_) fun Al h=>?_)))
 · refine wr (pN 1 k z fun a k=>nn (wp_ret (rt_then ?_)))
   refine fS h k m z z
 refine wp_skip (nm_then ?_)
 refine wp_seq (wr (sv k z (r_fa fa38_3 k z z) fun a k=>sv k z (r_ldb t134 m 1 Aa 6 k z z z z z) fun a k=>sv k z (r_fa fa38_3 k z z) fun a k=>sv k z (r_ldb t134 m 0 Ab 6 k z z z z z) fun a k=>oE h fun Bk Ay h=>cE k m call86 z z z (c_laws_eqPairS fu _ _ (Enc.rd_agr Aj (m.a00 (Enc.rd_lt Aj))) (Enc.rd_agr Af (m.a00 (Enc.rd_lt Af))) Ay) fun Bp e a k m=>pN 1 k z fun a k=>?_))
 have k:=k.keep [2,3,26] z
 refine nn (cI h k z (fun Av h=>?_) fun Av h=>?_)
 · refine wr (pN 1 k z fun a k=>nn (wp_ret (rt_then ?_)))
   refine fS h k m z z
 refine wp_skip (nm_then ?_)
 refine wp_seq (wr (sv k z (r_fa fa38_4 k z z) fun a k=>sv k z (r_ldb t135 m 1 Aa 7 k z z z z z) fun a k=>sv k z (r_fa fa38_4 k z z) fun a k=>sv k z (r_ldb t135 m 0 Ab 7 k z z z z z) fun a k=>oE h fun Bm Ao h=>cE k m call87 z z z (c_laws_eqTypeS fu _ _ (Enc.rd_agr Ad (m.a00 (Enc.rd_lt Ad))) (Enc.rd_agr Ae (m.a00 (Enc.rd_lt Ae))) Ao) fun Bn e a k m=>pN 1 k z fun a k=>nn (cI h k z (fun Am h=>?_) fun Am h=>?_)))
 · refine wr (pN 1 k z fun a k=>nn (wp_ret (rt_then ?_)))
   refine fS h k m z z
 refine wp_skip (nm_then ?_)
 refine wp_seq (wr (sv k z (r_fa fa38_5 k z z) fun a k=>sv k z (r_ldb t13 m 1 Aa 8 k z z z z z) fun a k=>sv k z (r_fa fa38_5 k z z) fun a k=>sv k z (r_ldb t13 m 0 Ab 8 k z z z z z) fun a k=>pN 1 k z fun a k=>nn (cI h k z (fun Au h=>?_) fun Au h=>?_)))
 · refine wr (pN 1 k z fun a k=>nn (wp_ret (rt_then ?_)))
   refine fS h k m z z
 refine wp_skip (nm_then ?_)
 refine wp_seq (wr (sv k z (r_fa fa38_6 k z z) fun a k=>sv k z (r_ldb t136 m 1 Aa 9 k z z z z z) fun a k=>sv k z (r_fa fa38_6 k z z) fun a k=>sv k z (r_ldb t136 m 0 Ab 9 k z z z z z) fun a k=>oE h fun Bo Ap h=>cE k m call88 z z z (c_laws_eqItemS fu _ _ (Enc.rd_agr Ah (m.a00 (Enc.rd_lt Ah))) (Enc.rd_agr Ac (m.a00 (Enc.rd_lt Ac))) Ap) fun Bs e a k m=>pN 1 k z fun a k=>nn (cI h k z (fun Aq h=>?_) fun Aq h=>?_)))
 · refine wr (pN 1 k z fun a k=>nn (wp_ret (rt_then ?_)))
   refine fS h k m z z
 refine wp_skip (nm_then ?_)
 refine wr (pN 1 k z fun a k=>nn (wp_ret (fS h k m z z)))
theorem c_laws_eqIntS (fu:Nat) {w0:World} (a1:List Int) (b5:List Int) {v2:Value} {F3:List Nat} (Aa:rd w0 F3 [v2] a1) {v6:Value} {F7:List Nat} (Ac:rd w0 F7 [v6] b5) {r:Bool}
    (h:d_laws_eqIntS fu a1 b5 = some r) :
    Calls Tryz.prog 42 #[v2,v6] w0 fun e w=>e = .returned (.bool (r)) ∧ Ext [] w0 w:=by
 refine enter (vs:=[_,_]) func42 z ntmps42 z fun a k=>?_
 have m:=St.start w0
 unfold d_laws_eqIntS at h
 refine wr (pN 1 k z fun a k=>nn (wp_seq (wr (pN 1 k z fun a k=>sv k z (r_len (α:=Int) Aa k underlying63 z z) fun a k=>pN 1 k z fun a k=>sv k z (r_len (α:=Int) Ac k underlying63 z z) fun a k=>pN 1 k z fun a k=>nn (cI h k z (fun Ah h=>?_) fun Ah h=>?_)))))
 · refine wr (pN 1 k z fun a k=>nn (wp_ret (rt_then ?_)))
   refine fS h k m z z
 refine wp_skip (nm_then ?_)
 refine wp_seq (wr (pN 1 k z fun a k=>nn (wp_block (c_loop (fun n a w=>∃ (Ab:Int),K 26 [(0,v2),(1,v6),(5,I Ab)] a ∧ St [] w0 w [] ∧ d_laws_eqIntS_L1 fu a1 b5 n Ab = some r) ?_ ?_ fu _ _ ?_))))
 · rintro a w ⟨_,_,_,h⟩
   exact nS h
 · rintro Al a Aj ⟨Ab,k,m,h⟩
   rw [d_laws_eqIntS_L1_s] at h
   unfold d_laws_eqIntS_L1_B at h
   refine wp_seq (wr (pN 2 k z fun a k=>sv k z (r_len (α:=Int) Aa k underlying63 z z) fun a k=>pN 1 k z fun a k=>nn (cI h k z (fun Af h=>?_) fun Af h=>?_)))
   · refine wp_skip (nm_then ?_)
     refine wp_seq (wp_block (wp_seq (d_go [] mixo m z fun Ai hMd=>?_)))
     have m:=hMd
     have s:=Ext.refl ([]:List Nat) Ai
     refine dN [0,1,4,5] 4 z k (by kernel_rfl) z s (fun _ _ _ _ _=>id) fun a k=>oE h fun Am Ae h=>dt k 2 z (by kernel_rfl) z s (fun _ _ _=>id) (fun w s=>r_ixa Aa Ae k ts63 z z z) fun a k=>dt k 3 z (by kernel_rfl) z s (fun _ _ _=>id) (fun w s=>r_lde1 Aa ((hMd.step s).a00 (Enc.rd_lt Aa)) Ae 0 t13 k z z z z) fun a k=>oE h fun Ak Ad h=>dt k 6 z (by kernel_rfl) z s (fun _ _ _=>id) (fun w s=>r_ixa Ac Ad k ts63 z z z) fun a k=>dt k 7 z (by kernel_rfl) z s (fun _ _ _=>id) (fun w s=>r_lde1 Ac ((hMd.step s).a00 (Enc.rd_lt Ac)) Ad 0 t13 k z z z z) fun a k=>dN [8] 1 z k (by kernel_rfl) z s (fun _ _ _ _ _=>id) fun a k=>d_done (by kernel_rfl) ((nm_then ?_))
     refine cI h k z (fun Ag h=>?_) fun Ag h=>?_
     · refine wr (pN 1 k z fun a k=>nn (wp_ret (rt_block (rt_then (rt_then (rt_block (rt_then ?_)))))))
       refine fS h k m z z
     refine wp_skip (nm_block (nm_then ?_))
     refine wp_region_lit (pN 3 k z fun a k=>nn ?_)
     exact ⟨w64 (Ab + 1),k.keep [0,1,5] z,m.sel [] z (by decide),h⟩
   refine wp_exit (ex_then (ex_then (ex_same (nm_then ?_))))
   refine wr (pN 1 k z fun a k=>nn (wp_ret (fS h k m z z)))
 exact ⟨0,k.keep [0,1,5] z,m.sel [] z (by decide),h⟩
theorem c_laws_eqCarton (fu:Nat) {w0:World} (a1:Carton) (b5:Carton) {Af:List Value} {F3:List Nat} (Al:rd w0 F3 Af a1) {Ae:List Value} {F7:List Nat} (Ah:rd w0 F7 Ae b5) {r:Bool}
    (h:d_laws_eqCarton fu a1 b5 = some r) :
    Calls Tryz.prog 228 #[.agg Af.toArray,.agg Ae.toArray] w0 fun e w=>e = .returned (.bool (r)) ∧ Ext [] w0 w:=by
 refine enter (vs:=[_,_]) func228 z ntmps228 z fun a k=>?_
 have m:=St.start w0
 obtain ⟨v9,_,rfl,rfl,Ad⟩:=Al
 obtain ⟨Am,_,rfl,rfl,Ac⟩:=Ah
 unfold d_laws_eqCarton at h
 refine wr (s_box (cs:=[I a1.fType,I a1.fGroup,v9]) m k z z z z z z fun Ar Ao a k m e Ab=>s_box (cs:=[I b5.fType,I b5.fGroup,Am]) m k z z z z z z fun Aq At a k m e Aa=>pN 1 k z fun a k=>nn (wp_seq (wr (sv k z (r_fa fa83_0 k z z) fun a k=>sv k z (r_ldb t13 m 1 Ab 0 k z z z z z) fun a k=>sv k z (r_fa fa83_0 k z z) fun a k=>sv k z (r_ldb t13 m 0 Aa 0 k z z z z z) fun a k=>pN 1 k z fun a k=>nn (cI h k z (fun Ai h=>?_) fun Ai h=>?_)))))
 · refine wr (pN 1 k z fun a k=>nn (wp_ret (rt_then ?_)))
   refine fS h k m z z
 refine wp_skip (nm_then ?_)
 refine wp_seq (wr (sv k z (r_fa fa83_1 k z z) fun a k=>sv k z (r_ldb t13 m 1 Ab 1 k z z z z z) fun a k=>sv k z (r_fa fa83_1 k z z) fun a k=>sv k z (r_ldb t13 m 0 Aa 1 k z z z z z) fun a k=>pN 1 k z fun a k=>nn (cI h k z (fun Ag h=>?_) fun Ag h=>?_)))
 · refine wr (pN 1 k z fun a k=>nn (wp_ret (rt_then ?_)))
   refine fS h k m z z
 refine wp_skip (nm_then ?_)
 refine wp_seq (wr (sv k z (r_fa fa83_2 k z z) fun a k=>sv k z (r_ldb t163 m 1 Ab 2 k z z z z z) fun a k=>sv k z (r_fa fa83_2 k z z) fun a k=>sv k z (r_ldb t163 m 0 Aa 2 k z z z z z) fun a k=>oE h fun Ap Aj h=>cE k m call42 z z z (c_laws_eqIntS fu _ _ (Enc.rd_agr Ad (m.a00 (Enc.rd_lt Ad))) (Enc.rd_agr Ac (m.a00 (Enc.rd_lt Ac))) Aj) fun As e a k m=>pN 1 k z fun a k=>nn (cI h k z (fun Ak h=>?_) fun Ak h=>?_)))
 · refine wr (pN 1 k z fun a k=>nn (wp_ret (rt_then ?_)))
   refine fS h k m z z
 refine wp_skip (nm_then ?_)
 refine wr (pN 1 k z fun a k=>nn (wp_ret (fS h k m z z)))
theorem c_laws_eqCartonS (fu:Nat) {w0:World} (a1:List Carton) (b5:List Carton) {v2:Value} {F3:List Nat} (Aa:rd w0 F3 [v2] a1) {v6:Value} {F7:List Nat} (Ab:rd w0 F7 [v6] b5) {r:Bool}
    (h:d_laws_eqCartonS fu a1 b5 = some r) :
    Calls Tryz.prog 126 #[v2,v6] w0 fun e w=>e = .returned (.bool (r)) ∧ Ext [] w0 w:=by
 refine enter (vs:=[_,_]) func126 z ntmps126 z fun a k=>?_
 have m:=St.start w0
 unfold d_laws_eqCartonS at h
 refine wr (pN 1 k z fun a k=>nn (wp_seq (wr (pN 1 k z fun a k=>sv k z (r_len (α:=Carton) Aa k underlying55 z z) fun a k=>pN 1 k z fun a k=>sv k z (r_len (α:=Carton) Ab k underlying55 z z) fun a k=>pN 1 k z fun a k=>nn (cI h k z (fun Ao h=>?_) fun Ao h=>?_)))))
 · refine wr (pN 1 k z fun a k=>nn (wp_ret (rt_then ?_)))
   refine fS h k m z z
 refine wp_skip (nm_then ?_)
 refine wp_seq (wr (pN 1 k z fun a k=>nn (wp_block (c_loop (fun n a w=>∃ (Ac:Int),K 27 [(0,v2),(1,v6),(5,I Ac)] a ∧ St [] w0 w [] ∧ d_laws_eqCartonS_L1 fu a1 b5 n Ac = some r) ?_ ?_ fu _ _ ?_))))
 · rintro a w ⟨_,_,_,h⟩
   exact nS h
 · rintro Bd a Bc ⟨Ac,k,m,h⟩
   rw [d_laws_eqCartonS_L1_s] at h
   unfold d_laws_eqCartonS_L1_B at h
   refine wp_seq (wr (pN 2 k z fun a k=>sv k z (r_len (α:=Carton) Aa k underlying55 z z) fun a k=>pN 1 k z fun a k=>nn (cI h k z (fun Aw h=>?_) fun Aw h=>?_)))
   · refine wp_skip (nm_then ?_)
     refine wp_seq (wp_block (wp_seq (d_go [] mixo m z fun As hMd=>?_)))
     have m:=hMd
     have s:=Ext.refl ([]:List Nat) As
     refine dN [0,1,4,5] 4 z k (by kernel_rfl) z s (fun _ _ _ _ _=>id) fun a k=>oE h fun Ae Ag h=>dt k 2 z (by kernel_rfl) z s (fun _ _ _=>id) (fun w s=>r_ixa Aa Ag k ts55 z z z) fun a k=>?_
     obtain ⟨Bb,Be,Bf,Aq,Al,At⟩:=rd_get Aa (ix_some Ag).2.2
     obtain ⟨Aj,_,rfl,rfl,Af⟩:=Aq
     refine dt k 3 z (by kernel_rfl) z s (fun _ _ _=>id) (fun w s=>r_ldA ta83 (Al.agr ((hMd.step s).a00 (Enc.rd_lt Aa)) At) z k z z) fun a k=>oE h fun Ad Ai h=>dt k 6 z (by kernel_rfl) z s (fun _ _ _=>id) (fun w s=>r_ixa Ab Ai k ts55 z z z) fun a k=>?_
     obtain ⟨Ay,Ax,Ba,Ap,Ar,Av⟩:=rd_get Ab (ix_some Ai).2.2
     obtain ⟨Ak,_,rfl,rfl,Ah⟩:=Ap
     refine dt k 7 z (by kernel_rfl) z s (fun _ _ _=>id) (fun w s=>r_ldA ta83 (Ar.agr ((hMd.step s).a00 (Enc.rd_lt Ab)) Av) z k z z) fun a k=>d_one 8 (by kernel_rfl) z (oE h fun Bg Au h=>cE k m call228 z z z (c_laws_eqCarton fu _ _ (show rd _ _ [I Ae.fType,I Ae.fGroup,Aj] (Ae:Carton) from ⟨_,_,z,z,(Enc.rd_agr Af (m.a00 (Enc.rd_lt Af)))⟩) (show rd _ _ [I Ad.fType,I Ad.fGroup,Ak] (Ad:Carton) from ⟨_,_,z,z,(Enc.rd_agr Ah (m.a00 (Enc.rd_lt Ah)))⟩) Au) fun Az e a k m=>?_)
     have s:=s.trans e (by simp)
     refine wpList_nil ⟨s,?_⟩
     refine dN [9] 1 z k (by kernel_rfl) z s (fun _ _ _ _ _=>id) fun a k=>d_done (by kernel_rfl) ((nm_then ?_))
     refine cI h k z (fun Am h=>?_) fun Am h=>?_
     · refine wr (pN 1 k z fun a k=>nn (wp_ret (rt_block (rt_then (rt_then (rt_block (rt_then ?_)))))))
       refine fS h k m z z
     refine wp_skip (nm_block (nm_then ?_))
     refine wp_region_lit (pN 3 k z fun a k=>nn ?_)
     exact ⟨w64 (Ac + 1),k.keep [0,1,5] z,m.sel [] z (by decide),h⟩
   refine wp_exit (ex_then (ex_then (ex_same (nm_then ?_))))
   refine wr (pN 1 k z fun a k=>nn (wp_ret (fS h k m z z)))
 exact ⟨0,k.keep [0,1,5] z,m.sel [] z (by decide),h⟩
theorem c_laws_eqSpot (fu:Nat) {w0:World} (a1:Spot) (b2:Spot)  {r:Bool}
    (h:d_laws_eqSpot fu a1 b2 = some r) :
    Calls Tryz.prog 229 #[.agg (Flat.e (a1)).toArray,.agg (Flat.e (b2)).toArray] w0 fun e w=>e = .returned (.bool (r)) ∧ Ext [] w0 w:=by
 refine enter (vs:=[_,_]) func229 z ntmps229 z fun a k=>?_
 have m:=St.start w0
 unfold d_laws_eqSpot at h
 refine wr (s_box (cs:=[I a1.fPallet,I a1.fX,I a1.fY,I a1.fZ]) m k z z z z z z fun b3 w5 a k m e Aa=>s_box (cs:=[I b2.fPallet,I b2.fX,I b2.fY,I b2.fZ]) m k z z z z z z fun b6 w9 a k m e Ab=>pN 1 k z fun a k=>nn (wp_seq (wr (sv k z (r_fa fa89_0 k z z) fun a k=>sv k z (r_ldb t13 m 1 Aa 0 k z z z z z) fun a k=>sv k z (r_fa fa89_0 k z z) fun a k=>sv k z (r_ldb t13 m 0 Ab 0 k z z z z z) fun a k=>pN 1 k z fun a k=>nn (cI h k z (fun Ac h=>?_) fun Ac h=>?_)))))
 · refine wr (pN 1 k z fun a k=>nn (wp_ret (rt_then ?_)))
   refine fS h k m z z
 refine wp_skip (nm_then ?_)
 refine wp_seq (wr (sv k z (r_fa fa89_1 k z z) fun a k=>sv k z (r_ldb t13 m 1 Aa 1 k z z z z z) fun a k=>sv k z (r_fa fa89_1 k z z) fun a k=>sv k z (r_ldb t13 m 0 Ab 1 k z z z z z) fun a k=>pN 1 k z fun a k=>nn (cI h k z (fun Ae h=>?_) fun Ae h=>?_)))
 · refine wr (pN 1 k z fun a k=>nn (wp_ret (rt_then ?_)))
   refine fS h k m z z
 refine wp_skip (nm_then ?_)
 refine wp_seq (wr (sv k z (r_fa fa89_2 k z z) fun a k=>sv k z (r_ldb t13 m 1 Aa 2 k z z z z z) fun a k=>sv k z (r_fa fa89_2 k z z) fun a k=>sv k z (r_ldb t13 m 0 Ab 2 k z z z z z) fun a k=>pN 1 k z fun a k=>nn (cI h k z (fun Af h=>?_) fun Af h=>?_)))
 · refine wr (pN 1 k z fun a k=>nn (wp_ret (rt_then ?_)))
   refine fS h k m z z
 refine wp_skip (nm_then ?_)
 refine wp_seq (wr (sv k z (r_fa fa89_3 k z z) fun a k=>sv k z (r_ldb t13 m 1 Aa 3 k z z z z z) fun a k=>sv k z (r_fa fa89_3 k z z) fun a k=>sv k z (r_ldb t13 m 0 Ab 3 k z z z z z) fun a k=>pN 1 k z fun a k=>nn (cI h k z (fun Ad h=>?_) fun Ad h=>?_)))
 · refine wr (pN 1 k z fun a k=>nn (wp_ret (rt_then ?_)))
   refine fS h k m z z
 refine wp_skip (nm_then ?_)
 refine wr (pN 1 k z fun a k=>nn (wp_ret (fS h k m z z)))
theorem c_laws_eqSpotS (fu:Nat) {w0:World} (a1:List Spot) (b5:List Spot) {v2:Value} {F3:List Nat} (Aa:rd w0 F3 [v2] a1) {v6:Value} {F7:List Nat} (Ab:rd w0 F7 [v6] b5) {r:Bool}
    (h:d_laws_eqSpotS fu a1 b5 = some r) :
    Calls Tryz.prog 127 #[v2,v6] w0 fun e w=>e = .returned (.bool (r)) ∧ Ext [] w0 w:=by
 refine enter (vs:=[_,_]) func127 z ntmps127 z fun a k=>?_
 have m:=St.start w0
 unfold d_laws_eqSpotS at h
 refine wr (pN 1 k z fun a k=>nn (wp_seq (wr (pN 1 k z fun a k=>sv k z (r_len (α:=Spot) Aa k underlying56 z z) fun a k=>pN 1 k z fun a k=>sv k z (r_len (α:=Spot) Ab k underlying56 z z) fun a k=>pN 1 k z fun a k=>nn (cI h k z (fun Ak h=>?_) fun Ak h=>?_)))))
 · refine wr (pN 1 k z fun a k=>nn (wp_ret (rt_then ?_)))
   refine fS h k m z z
 refine wp_skip (nm_then ?_)
 refine wp_seq (wr (pN 1 k z fun a k=>nn (wp_block (c_loop (fun n a w=>∃ (Ac:Int),K 27 [(0,v2),(1,v6),(5,I Ac)] a ∧ St [] w0 w [] ∧ d_laws_eqSpotS_L1 fu a1 b5 n Ac = some r) ?_ ?_ fu _ _ ?_))))
 · rintro a w ⟨_,_,_,h⟩
   exact nS h
 · rintro Ap a Ao ⟨Ac,k,m,h⟩
   rw [d_laws_eqSpotS_L1_s] at h
   unfold d_laws_eqSpotS_L1_B at h
   refine wp_seq (wr (pN 2 k z fun a k=>sv k z (r_len (α:=Spot) Aa k underlying56 z z) fun a k=>pN 1 k z fun a k=>nn (cI h k z (fun Ai h=>?_) fun Ai h=>?_)))
   · refine wp_skip (nm_then ?_)
     refine wp_seq (wp_block (wp_seq (d_go [] mixo m z fun Ag hMd=>?_)))
     have m:=hMd
     have s:=Ext.refl ([]:List Nat) Ag
     refine dN [0,1,4,5] 4 z k (by kernel_rfl) z s (fun _ _ _ _ _=>id) fun a k=>oE h fun Al Ad h=>dt k 2 z (by kernel_rfl) z s (fun _ _ _=>id) (fun w s=>r_ixa Aa Ad k ts56 z z z) fun a k=>dt k 3 z (by kernel_rfl) z s (fun _ _ _=>id) (fun w s=>r_lde Aa ((hMd.step s).a00 (Enc.rd_lt Aa)) Ad ta89 k z z) fun a k=>oE h fun Aj Ae h=>dt k 6 z (by kernel_rfl) z s (fun _ _ _=>id) (fun w s=>r_ixa Ab Ae k ts56 z z z) fun a k=>dt k 7 z (by kernel_rfl) z s (fun _ _ _=>id) (fun w s=>r_lde Ab ((hMd.step s).a00 (Enc.rd_lt Ab)) Ae ta89 k z z) fun a k=>d_one 8 (by kernel_rfl) z (oE h fun Am Af h=>cE k m call229 z z z (c_laws_eqSpot fu (Al:Spot) (Aj:Spot)  Af) fun Aq e a k m=>?_)
     have s:=s.trans e (by simp)
     refine wpList_nil ⟨s,?_⟩
     refine dN [9] 1 z k (by kernel_rfl) z s (fun _ _ _ _ _=>id) fun a k=>d_done (by kernel_rfl) ((nm_then ?_))
     refine cI h k z (fun Ah h=>?_) fun Ah h=>?_
     · refine wr (pN 1 k z fun a k=>nn (wp_ret (rt_block (rt_then (rt_then (rt_block (rt_then ?_)))))))
       refine fS h k m z z
     refine wp_skip (nm_block (nm_then ?_))
     refine wp_region_lit (pN 3 k z fun a k=>nn ?_)
     exact ⟨w64 (Ac + 1),k.keep [0,1,5] z,m.sel [] z (by decide),h⟩
   refine wp_exit (ex_then (ex_then (ex_same (nm_then ?_))))
   refine wr (pN 1 k z fun a k=>nn (wp_ret (fS h k m z z)))
 exact ⟨0,k.keep [0,1,5] z,m.sel [] z (by decide),h⟩
theorem c_laws_eqPlan (fu:Nat) {w0:World} (a1:Plan) (b5:Plan) {Ag:List Value} {F3:List Nat} (Aq:rd w0 F3 Ag a1) {Ae:List Value} {F7:List Nat} (Ao:rd w0 F7 Ae b5) {r:Bool}
    (h:d_laws_eqPlan fu a1 b5 = some r) :
    Calls Tryz.prog 36 #[.agg Ag.toArray,.agg Ae.toArray] w0 fun e w=>e = .returned (.bool (r)) ∧ Ext [] w0 w:=by
 refine enter (vs:=[_,_]) func36 z ntmps36 z fun a k=>?_
 have m:=St.start w0
 obtain ⟨v9,Av,Ar,Bb,rfl,rfl,Af,Ad⟩:=Aq
 obtain ⟨Ai,Az,Ak,As,rfl,rfl,Ab,Ac⟩:=Ao
 unfold d_laws_eqPlan at h
 refine wr (s_box (cs:=[v9,Ar]) m k z z z z z z fun Ay Bc a k m e Aa=>s_box (cs:=[Ai,Ak]) m k z z z z z z fun Aw At a k m e Ah=>pN 1 k z fun a k=>nn (wp_seq (wr (sv k z (r_fa fa58_0 k z z) fun a k=>sv k z (r_ldb t155 m 1 Aa 0 k z z z z z) fun a k=>sv k z (r_fa fa58_0 k z z) fun a k=>sv k z (r_ldb t155 m 0 Ah 0 k z z z z z) fun a k=>oE h fun Bd Aj h=>cE k m call126 z z z (c_laws_eqCartonS fu _ _ (Enc.rd_agr Af (m.a00 (Enc.rd_lt Af))) (Enc.rd_agr Ab (m.a00 (Enc.rd_lt Ab))) Aj) fun Ax e a k m=>pN 1 k z fun a k=>nn (cI h k z (fun Ap h=>?_) fun Ap h=>?_)))))
 · refine wr (pN 1 k z fun a k=>nn (wp_ret (rt_then ?_)))
   refine fS h k m z z
 refine wp_skip (nm_then ?_)
 refine wp_seq (wr (sv k z (r_fa fa58_1 k z z) fun a k=>sv k z (r_ldb t156 m 1 Aa 1 k z z z z z) fun a k=>sv k z (r_fa fa58_1 k z z) fun a k=>sv k z (r_ldb t156 m 0 Ah 1 k z z z z z) fun a k=>oE h fun Ba Am h=>cE k m call127 z z z (c_laws_eqSpotS fu _ _ (Enc.rd_agr Ad (m.a00 (Enc.rd_lt Ad))) (Enc.rd_agr Ac (m.a00 (Enc.rd_lt Ac))) Am) fun Au e a k m=>pN 1 k z fun a k=>nn (cI h k z (fun Al h=>?_) fun Al h=>?_)))
 · refine wr (pN 1 k z fun a k=>nn (wp_ret (rt_then ?_)))
   refine fS h k m z z
 refine wp_skip (nm_then ?_)
 refine wr (pN 1 k z fun a k=>nn (wp_ret (fS h k m z z)))

end Go.Proofs.YtkkfmjpbiimkbaaGreat
