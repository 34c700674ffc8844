/- FnExactFront: the walks of functions that it reaches (ExactFrontBWl,part 1). Printed by gen.py. -/
import Derived.Test.YtlmibnlfkmiikaaGreatExactFrontBT
set_option maxRecDepth 20000
set_option linter.unusedSimpArgs false
set_option linter.unusedVariables false
namespace Go.Proofs.YtlmibnlfkmiikaaGreat
open Go Go.RowKit
open Enc (rd ow)
open Arg (argv)
open Ret (retv)
open Go.Proofs.Tryz


theorem c_laws_szPairS (fu:Nat) {w0:World} (a1:List Pair) (Aa:Int) {v2:Value} {F3:List Nat} (Ab:rd w0 F3 [v2] a1) {r:Int}
    (h:d_laws_szPairS fu a1 Aa = some r) :
    Calls Tryz.prog 81 #[v2,I Aa] w0 fun e w=>e = .returned (I r) ∧ Ext [] w0 w:=by
 refine enter (vs:=[_,_]) func81 z ntmps81 z fun a k=>?_
 have m:=St.start w0
 unfold d_laws_szPairS at h
 refine wr (pN 1 k z fun a k=>nn (wr (pN 2 k z fun a k=>sv k z (r_len (α:=Pair) Ab k underlying48 z z) fun a k=>pN 2 k z fun a k=>nn (wp_seq (wr (pN 2 k z fun a k=>nn (cI h k z (fun Ac h=>?_) fun Ac h=>?_)))))))
 · refine wr (pN 1 k z fun a k=>nn (wp_ret (rt_then ?_)))
   refine fS h k m z z
 refine wp_skip (nm_then ?_)
 refine wr (pN 2 k z fun a k=>nn (wp_ret (fS h k m z z)))
theorem c_laws_szTypeS (fu:Nat) {w0:World} (a1:List Typ) (Aa:Int) {v2:Value} {F3:List Nat} (Ab:rd w0 F3 [v2] a1) {r:Int}
    (h:d_laws_szTypeS fu a1 Aa = some r) :
    Calls Tryz.prog 82 #[v2,I Aa] w0 fun e w=>e = .returned (I r) ∧ Ext [] w0 w:=by
 refine enter (vs:=[_,_]) func82 z ntmps82 z fun a k=>?_
 have m:=St.start w0
 unfold d_laws_szTypeS at h
 refine wr (pN 1 k z fun a k=>nn (wr (pN 2 k z fun a k=>sv k z (r_len (α:=Typ) Ab k underlying49 z z) fun a k=>pN 2 k z fun a k=>nn (wp_seq (wr (pN 2 k z fun a k=>nn (cI h k z (fun Ac h=>?_) fun Ac h=>?_)))))))
 · refine wr (pN 1 k z fun a k=>nn (wp_ret (rt_then ?_)))
   refine fS h k m z z
 refine wp_skip (nm_then ?_)
 refine wr (pN 2 k z fun a k=>nn (wp_ret (fS h k m z z)))
theorem c_laws_szItemS (fu:Nat) {w0:World} (a1:List Item) (Aa:Int) {v2:Value} {F3:List Nat} (Ab:rd w0 F3 [v2] a1) {r:Int}
    (h:d_laws_szItemS fu a1 Aa = some r) :
    Calls Tryz.prog 83 #[v2,I Aa] w0 fun e w=>e = .returned (I r) ∧ Ext [] w0 w:=by
 refine enter (vs:=[_,_]) func83 z ntmps83 z fun a k=>?_
 have m:=St.start w0
 unfold d_laws_szItemS at h
 refine wr (pN 1 k z fun a k=>nn (wr (pN 2 k z fun a k=>sv k z (r_len (α:=Item) Ab k underlying50 z z) fun a k=>pN 2 k z fun a k=>nn (wp_seq (wr (pN 2 k z fun a k=>nn (cI h k z (fun Ac h=>?_) fun Ac h=>?_)))))))
 · refine wr (pN 1 k z fun a k=>nn (wp_ret (rt_then ?_)))
   refine fS h k m z z
 refine wp_skip (nm_then ?_)
 refine wr (pN 2 k z fun a k=>nn (wp_ret (fS h k m z z)))
theorem c_laws_szRequest (fu:Nat) {w0:World} (a1:Request) (Ab:Int) {Ac:List Value} {F3:List Nat} (Al:rd w0 F3 Ac a1) {r:Int}
    (h:d_laws_szRequest fu a1 Ab = some r) :
    Calls Tryz.prog 23 #[.agg Ac.toArray,I Ab] w0 fun e w=>e = .returned (I r) ∧ Ext [] w0 w:=by
 refine enter (vs:=[_,_]) func23 z ntmps23 z fun a k=>?_
 have m:=St.start w0
 obtain ⟨v6,F7,v8,F9,Am,Av,rfl,rfl,Ad,Af,Ae⟩:=Al
 unfold d_laws_szRequest at h
 refine wr (s_box (cs:=[I a1.fWay,I a1.fPallet.fW,I a1.fPallet.fD,I a1.fPallet.fH,I a1.fPallet.fGram,I a1.fClasses,v6,v8,I a1.fMaster,Am]) m k z z z z z z fun Au Ap a k m e Aa=>pN 1 k z fun a k=>nn (wr (sv k z (r_fa fa52_3 k z z) fun a k=>sv k z (r_ldb t148 m 0 Aa 6 k z z z z z) fun a k=>pN 1 k z fun a k=>oE h fun As Ah h=>cE k m call81 z z z (c_laws_szPairS fu _ _ (Enc.rd_agr Ad (m.a00 (Enc.rd_lt Ad))) Ah) fun Aw e a k m=>pN 1 k z fun a k=>nn (wp_seq (wr (pN 2 k z fun a k=>nn (cI h k z (fun Aj h=>?_) fun Aj h=>?_)))))))
 · refine wr (pN 1 k z fun a k=>nn (wp_ret (rt_then ?_)))
   refine fS h k m z z
 refine wp_skip (nm_then ?_)
 refine wr (sv k z (r_fa fa52_4 k z z) fun a k=>sv k z (r_ldb t149 m 0 Aa 7 k z z z z z) fun a k=>pN 1 k z fun a k=>oE h fun At Ak h=>cE k m call82 z z z (c_laws_szTypeS fu _ _ (Enc.rd_agr Af (m.a00 (Enc.rd_lt Af))) Ak) fun Ax e a k m=>pN 1 k z fun a k=>nn (wp_seq (wr (pN 2 k z fun a k=>nn (cI h k z (fun Ai h=>?_) fun Ai h=>?_)))))
 · refine wr (pN 1 k z fun a k=>nn (wp_ret (rt_then ?_)))
   refine fS h k m z z
 refine wp_skip (nm_then ?_)
 refine wr (sv k z (r_fa fa52_6 k z z) fun a k=>sv k z (r_ldb t150 m 0 Aa 9 k z z z z z) fun a k=>pN 1 k z fun a k=>oE h fun Aq Ag h=>cE k m call83 z z z (c_laws_szItemS fu _ _ (Enc.rd_agr Ae (m.a00 (Enc.rd_lt Ae))) Ag) fun Ar e a k m=>pN 1 k z fun a k=>nn (wp_seq (wr (pN 2 k z fun a k=>nn (cI h k z (fun Ao h=>?_) fun Ao h=>?_)))))
 · refine wr (pN 1 k z fun a k=>nn (wp_ret (rt_then ?_)))
   refine fS h k m z z
 refine wp_skip (nm_then ?_)
 refine wr (pN 2 k z fun a k=>?_)
 have k:=k.keep [4] z
 refine nn (wp_ret (fS h k m z z))
theorem c_laws_szIntS (fu:Nat) {w0:World} (a1:List Int) (Aa:Int) {v2:Value} {F3:List Nat} (Ab:rd w0 F3 [v2] a1) {r:Int}
    (h:d_laws_szIntS fu a1 Aa = some r) :
    Calls Tryz.prog 84 #[v2,I Aa] w0 fun e w=>e = .returned (I r) ∧ Ext [] w0 w:=by
 refine enter (vs:=[_,_]) func84 z ntmps84 z fun a k=>?_
 have m:=St.start w0
 unfold d_laws_szIntS at h
 refine wr (pN 1 k z fun a k=>nn (wr (pN 2 k z fun a k=>sv k z (r_len (α:=Int) Ab k underlying31 z z) fun a k=>pN 2 k z fun a k=>nn (wp_seq (wr (pN 2 k z fun a k=>nn (cI h k z (fun Ac h=>?_) fun Ac h=>?_)))))))
 · refine wr (pN 1 k z fun a k=>nn (wp_ret (rt_then ?_)))
   refine fS h k m z z
 refine wp_skip (nm_then ?_)
 refine wr (pN 2 k z fun a k=>nn (wp_ret (fS h k m z z)))
theorem c_laws_szCarton (fu:Nat) {w0:World} (a1:Carton) (Ab:Int) {Ac:List Value} {F3:List Nat} (Af:rd w0 F3 Ac a1) {r:Int}
    (h:d_laws_szCarton fu a1 Ab = some r) :
    Calls Tryz.prog 199 #[.agg Ac.toArray,I Ab] w0 fun e w=>e = .returned (I r) ∧ Ext [] w0 w:=by
 refine enter (vs:=[_,_]) func199 z ntmps199 z fun a k=>?_
 have m:=St.start w0
 obtain ⟨v6,_,rfl,rfl,Aa⟩:=Af
 unfold d_laws_szCarton at h
 refine wr (s_box (cs:=[I a1.fType,I a1.fGroup,v6]) m k z z z z z z fun b8 Ah a k m e Ad=>pN 1 k z fun a k=>nn (wr (sv k z (r_fa fa190_2 k z z) fun a k=>sv k z (r_ldb t131 m 0 Ad 2 k z z z z z) fun a k=>pN 1 k z fun a k=>oE h fun Aj Ae h=>cE k m call84 z z z (c_laws_szIntS fu _ _ (Enc.rd_agr Aa (m.a00 (Enc.rd_lt Aa))) Ae) fun Ai e a k m=>pN 1 k z fun a k=>nn (wp_seq (wr (pN 2 k z fun a k=>nn (cI h k z (fun Ag h=>?_) fun Ag h=>?_)))))))
 · refine wr (pN 1 k z fun a k=>nn (wp_ret (rt_then ?_)))
   refine fS h k m z z
 refine wp_skip (nm_then ?_)
 refine wr (pN 2 k z fun a k=>nn (wp_ret (fS h k m z z)))
theorem c_laws_szCartonS (fu:Nat) {w0:World} (a1:List Carton) (Ac:Int) {v2:Value} {F3:List Nat} (Aa:rd w0 F3 [v2] a1) {r:Int}
    (h:d_laws_szCartonS fu a1 Ac = some r) :
    Calls Tryz.prog 107 #[v2,I Ac] w0 fun e w=>e = .returned (I r) ∧ Ext [] w0 w:=by
 refine enter (vs:=[_,_]) func107 z ntmps107 z fun a k=>?_
 have m:=St.start w0
 unfold d_laws_szCartonS at h
 refine wr (pN 1 k z fun a k=>nn (wr (pN 2 k z fun a k=>sv k z (r_len (α:=Carton) Aa k underlying66 z z) fun a k=>pN 2 k z fun a k=>nn (wp_seq (wr (pN 2 k z fun a k=>nn (cI h k z (fun Aq h=>?_) fun Aq h=>?_)))))))
 · refine wr (pN 1 k z fun a k=>nn (wp_ret (rt_then ?_)))
   refine fS h k m z z
 refine wp_skip (nm_then ?_)
 refine wp_seq (wr (pN 1 k z fun a k=>nn (wp_block (c_loop (fun n a w=>∃ (Ad:Int) (Ab:Int),K 27 [(0,v2),(1,I Ad),(5,I Ab)] a ∧ St [] w0 w [] ∧ d_laws_szCartonS_L1 fu a1 n Ad Ab = some r) ?_ ?_ fu _ _ ?_))))
 · rintro a w ⟨_,_,_,_,h⟩
   exact nS h
 · rintro Au a Ar ⟨Ad,Ab,k,m,h⟩
   rw [d_laws_szCartonS_L1_s] at h
   unfold d_laws_szCartonS_L1_B at h
   refine wp_seq (wr (pN 2 k z fun a k=>sv k z (r_len (α:=Carton) Aa k underlying66 z z) fun a k=>pN 1 k z fun a k=>nn (cI h k z (fun Ah h=>?_) fun Ah h=>?_)))
   · refine wp_skip (nm_then ?_)
     refine wp_seq (wp_block (wr (pN 2 k z fun a k=>oE h fun Ae Af h=>sv k z (r_ixa Aa Af k ts66 z z z) fun a k=>?_)))
     obtain ⟨As,At,Aw,Ao,Ak,Al⟩:=rd_get Aa (ix_some Af).2.2
     obtain ⟨Am,_,rfl,rfl,Ag⟩:=Ao
     refine sv k z (r_ldA ta190 (Ak.agr (m.a00 (Enc.rd_lt Aa)) Al) z k z z) fun a k=>pN 1 k z fun a k=>oE h fun Aj Ap h=>cE k m call199 z z z (c_laws_szCarton fu _ _ (show rd _ _ [I Ae.fType,I Ae.fGroup,Am] (Ae:Carton) from ⟨_,_,z,z,(Enc.rd_agr Ag (m.a00 (Enc.rd_lt Ag)))⟩) Ap) fun Av e a k m=>pN 1 k z fun a k=>nn (wr (pN 2 k z fun a k=>nn (cI h k z (fun Ai h=>?_) fun Ai h=>?_)))
     · refine wr (pN 1 k z fun a k=>nn (wp_ret (rt_block (rt_then (rt_then (rt_block (rt_then ?_)))))))
       refine fS h k m z z
     refine wp_skip (nm_block (nm_then ?_))
     refine wp_region_lit (pN 3 k z fun a k=>nn ?_)
     exact ⟨Aj,w64 (Ab + 1),k.keep [0,1,5] z,m.sel [] z (by decide),h⟩
   refine wp_exit (ex_then (ex_then (ex_same (nm_then ?_))))
   refine wr (pN 2 k z fun a k=>nn (wp_ret (fS h k m z z)))
 exact ⟨w64 (Ac - ((a1.length:Int))),0,k.keep [0,1,5] z,m.sel [] z (by decide),h⟩
theorem c_laws_szSpotS (fu:Nat) {w0:World} (a1:List Spot) (Aa:Int) {v2:Value} {F3:List Nat} (Ab:rd w0 F3 [v2] a1) {r:Int}
    (h:d_laws_szSpotS fu a1 Aa = some r) :
    Calls Tryz.prog 108 #[v2,I Aa] w0 fun e w=>e = .returned (I r) ∧ Ext [] w0 w:=by
 refine enter (vs:=[_,_]) func108 z ntmps108 z fun a k=>?_
 have m:=St.start w0
 unfold d_laws_szSpotS at h
 refine wr (pN 1 k z fun a k=>nn (wr (pN 2 k z fun a k=>sv k z (r_len (α:=Spot) Ab k underlying67 z z) fun a k=>pN 2 k z fun a k=>nn (wp_seq (wr (pN 2 k z fun a k=>nn (cI h k z (fun Ac h=>?_) fun Ac h=>?_)))))))
 · refine wr (pN 1 k z fun a k=>nn (wp_ret (rt_then ?_)))
   refine fS h k m z z
 refine wp_skip (nm_then ?_)
 refine wr (pN 2 k z fun a k=>nn (wp_ret (fS h k m z z)))
theorem c_laws_szPlan (fu:Nat) {w0:World} (a1:Plan) (Ac:Int) {Ae:List Value} {F3:List Nat} (Aj:rd w0 F3 Ae a1) {r:Int}
    (h:d_laws_szPlan fu a1 Ac = some r) :
    Calls Tryz.prog 38 #[.agg Ae.toArray,I Ac] w0 fun e w=>e = .returned (I r) ∧ Ext [] w0 w:=by
 refine enter (vs:=[_,_]) func38 z ntmps38 z fun a k=>?_
 have m:=St.start w0
 obtain ⟨v6,F7,v8,F9,rfl,rfl,Aa,Ad⟩:=Aj
 unfold d_laws_szPlan at h
 refine wr (s_box (cs:=[v6,v8]) m k z z z z z z fun Ap Ak a k m e Ab=>pN 1 k z fun a k=>nn (wr (sv k z (r_fa fa69_0 k z z) fun a k=>sv k z (r_ldb t166 m 0 Ab 0 k z z z z z) fun a k=>pN 1 k z fun a k=>oE h fun Al Ah h=>cE k m call107 z z z (c_laws_szCartonS fu _ _ (Enc.rd_agr Aa (m.a00 (Enc.rd_lt Aa))) Ah) fun Aq e a k m=>pN 1 k z fun a k=>nn (wp_seq (wr (pN 2 k z fun a k=>nn (cI h k z (fun Ag h=>?_) fun Ag h=>?_)))))))
 · refine wr (pN 1 k z fun a k=>nn (wp_ret (rt_then ?_)))
   refine fS h k m z z
 refine wp_skip (nm_then ?_)
 refine wr (sv k z (r_fa fa69_1 k z z) fun a k=>sv k z (r_ldb t167 m 0 Ab 1 k z z z z z) fun a k=>pN 1 k z fun a k=>oE h fun Am Ai h=>cE k m call108 z z z (c_laws_szSpotS fu _ _ (Enc.rd_agr Ad (m.a00 (Enc.rd_lt Ad))) Ai) fun Ao e a k m=>pN 1 k z fun a k=>nn (wp_seq (wr (pN 2 k z fun a k=>nn (cI h k z (fun Af h=>?_) fun Af h=>?_)))))
 · refine wr (pN 1 k z fun a k=>nn (wp_ret (rt_then ?_)))
   refine fS h k m z z
 refine wp_skip (nm_then ?_)
 refine wr (pN 2 k z fun a k=>nn (wp_ret (fS h k m z z)))
theorem c_laws_toPallet (fu:Nat) {w0:World} (a1:Pallet)  {r:Pallet}
    (h:d_laws_toPallet fu a1 = some r) :
    Calls Tryz.prog 89 #[.agg (Flat.e (a1)).toArray] w0 fun e w=>e = .returned (.agg (Flat.e r).toArray) ∧ Ext [] w0 w:=by
 refine enter (vs:=[_]) func89 z ntmps89 z fun a k=>?_
 have m:=St.start w0
 unfold d_laws_toPallet at h
 refine wr (s_box (cs:=[I a1.fW,I a1.fD,I a1.fH,I a1.fGram]) m k z z z z z z fun b2 w4 a k m e Aa=>s_alloc (cs:=[I 0,I 0,I 0,I 0]) m k zeroValue25 z z z z z fun b5 w7 a k m e Ag=>nn (wr (s_alloc (cs:=[I 0,I 0,I 0,I 0]) m k zeroValue25 z z z z z fun b8 Ai a k m e Ab=>nn (wr (sv k z (r_fa fa47_0 k z z) fun a k=>sv k z (r_ldb t13 m 2 Aa 0 k z z z z z) fun a k=>sv k z (r_fa fa25_0 k z z) fun a k=>s_stb (cs':=[I a1.fW,I 0,I 0,I 0]) sizeOf3 m 0 Ab 0 k z z z z z z z z z z z fun Ao a k e m Ac=>nn (wr (sv k z (r_fa fa47_1 k z z) fun a k=>?_)))))))
 refine sv k z (r_ldb t13 m 2 Aa 1 k z z z z z) fun a k=>sv k z (r_fa fa25_1 k z z) fun a k=>s_stb (cs':=[I a1.fW,I a1.fD,I 0,I 0]) sizeOf3 m 0 Ac 1 k z z z z z z z z z z z fun Am a k e m Ad=>nn (wr (sv k z (r_fa fa47_2 k z z) fun a k=>sv k z (r_ldb t13 m 2 Aa 2 k z z z z z) fun a k=>sv k z (r_fa fa25_2 k z z) fun a k=>s_stb (cs':=[I a1.fW,I a1.fD,I a1.fH,I 0]) sizeOf3 m 0 Ad 2 k z z z z z z z z z z z fun Al a k e m Af=>nn (wr (sv k z (r_fa fa47_3 k z z) fun a k=>sv k z (r_ldb t13 m 2 Aa 3 k z z z z z) fun a k=>sv k z (r_fa fa25_3 k z z) fun a k=>?_))))
 refine s_stb (cs':=[I a1.fW,I a1.fD,I a1.fH,I a1.fGram]) sizeOf3 m 0 Af 3 k z z z z z z z z z z z fun Ak a k e m Ae=>nn (wr (sv k z (r_ldB ta25 m 0 Ae 0 k z z z z z z) fun a k=>s_stb (cs':=[I a1.fW,I a1.fD,I a1.fH,I a1.fGram]) sizeOf25 m 1 Ag 0 k z z z z z z z z z z z fun Aj a k e m Ah=>nn (wp_ret ?_)))
 cases h
 exact finR1 k z (RV.cA k z ta25 (Ah.at (m.a 1 z) 0 4 z z z) z) ⟨z,m.ext⟩
theorem c_laws_toPair (fu:Nat) {w0:World} (a1:Pair)  {r:Pair}
    (h:d_laws_toPair fu a1 = some r) :
    Calls Tryz.prog 176 #[.agg (Flat.e (a1)).toArray] w0 fun e w=>e = .returned (.agg (Flat.e r).toArray) ∧ Ext [] w0 w:=by
 refine enter (vs:=[_]) func176 z ntmps176 z fun a k=>?_
 have m:=St.start w0
 unfold d_laws_toPair at h
 refine wr (s_box (cs:=[I a1.fA,I a1.fB]) m k z z z z z z fun b2 w4 a k m e Aa=>s_alloc (cs:=[I 0,I 0]) m k zeroValue158 z z z z z fun b5 w7 a k m e Af=>nn (wr (s_alloc (cs:=[I 0,I 0]) m k zeroValue158 z z z z z fun b8 Ag a k m e Ab=>nn (wr (sv k z (r_fa fa173_0 k z z) fun a k=>sv k z (r_ldb t13 m 2 Aa 0 k z z z z z) fun a k=>sv k z (r_fa fa158_0 k z z) fun a k=>s_stb (cs':=[I a1.fA,I 0]) sizeOf3 m 0 Ab 0 k z z z z z z z z z z z fun Aj a k e m Ac=>nn (wr (sv k z (r_fa fa173_1 k z z) fun a k=>sv k z (r_ldb t13 m 2 Aa 1 k z z z z z) fun a k=>sv k z (r_fa fa158_1 k z z) fun a k=>?_)))))))
 refine s_stb (cs':=[I a1.fA,I a1.fB]) sizeOf3 m 0 Ac 1 k z z z z z z z z z z z fun Ai a k e m Ad=>nn (wr (sv k z (r_ldB ta158 m 0 Ad 0 k z z z z z z) fun a k=>s_stb (cs':=[I a1.fA,I a1.fB]) sizeOf158 m 1 Af 0 k z z z z z z z z z z z fun Ah a k e m Ae=>nn (wp_ret ?_)))
 cases h
 exact finR1 k z (RV.cA k z ta158 (Ae.at (m.a 1 z) 0 2 z z z) z) ⟨z,m.ext⟩
theorem c_laws_toPairS (fu:Nat) {w0:World} (a1:List Pair) {v2:Value} {F3:List Nat} (Ac:rd w0 F3 [v2] a1) {r:(List Pair)}
    (h:d_laws_toPairS fu a1 = some r) :
    Calls Tryz.prog 90 #[v2] w0 fun e w=>∃ (v0:Value) (G0:List Nat),e = .returned (v0) ∧ Ext [] w0 w ∧ ow w G0 [v0] r ∧ (∀ b ∈ G0,w0.heap.size ≤ b):=by
 refine enter (vs:=[_]) func90 z ntmps90 z fun a k=>?_
 have m:=St.start w0
 unfold d_laws_toPairS at h
 refine wr (pN 1 k z fun a k=>nn (wr (pN 1 k z fun a k=>sv k z (r_len (α:=Pair) Ac k underlying48 z z) fun a k=>oE h fun x5 Am h=>s_mk Am te26 z z m k z z z z z z fun g7 w9 a Al k m e Ak=>pN 1 k z fun a k=>nn (wp_seq (wr (pN 1 k z fun a k=>nn (wp_block (c_loop (fun n a w=>∃ (Ae:List Pair) (Ad:Value) (Aa:List Nat) (Af:World) (Ab:Int),K 23 [(0,v2),(3,Ad),(4,I Ab)] a ∧ St [] w0 w [(Aa,Af)] ∧ ow Af Aa [Ad] Ae ∧ d_laws_toPairS_L1 fu a1 n Ae Ab = some r) ?_ ?_ fu _ _ ?_))))))))
 · rintro a w ⟨_,_,_,_,_,_,_,_,h⟩
   exact nS h
 · rintro Av a Au ⟨Ae,Ad,Aa,Af,Ab,k,m,Ag,h⟩
   rw [d_laws_toPairS_L1_s] at h
   unfold d_laws_toPairS_L1_B at h
   refine wp_seq (wr (pN 2 k z fun a k=>sv k z (r_len (α:=Pair) Ac k underlying48 z z) fun a k=>pN 1 k z fun a k=>nn (cI h k z (fun Ao h=>?_) fun Ao h=>?_)))
   · refine wp_skip (nm_then ?_)
     refine wp_seq (wp_block (wp_region_lit (pN 4 k z fun a k=>oE h fun Aq Ah h=>sv k z (r_ixa Ac Ah k ts48 z z z) fun a k=>sv k z (r_lde Ac (m.a00 (Enc.rd_lt Ac)) Ah ta173 k z z) fun a k=>oE h fun Aj Ap h=>cE k m call176 z z z (c_laws_toPair fu (Aq:Pair)  Ap) fun At e a k m=>oE h fun Aw Ai h=>sv k z (r_ixa (Enc.ow_rd Ag) Ai k ts26 z z z) fun a k=>s_ste (α:=Pair) (sz:=2) (y:=Aj) sizeOf158 Ai m 0 Ag 0 k z z z z z z z z z z z z fun Ar a k e m As=>wpList_nil (nm_block (nm_then ?_)))))
     refine wp_region_lit (pN 3 k z fun a k=>nn ?_)
     exact ⟨setx Ae Ab Aj,Ad,Aa,Ar,w64 (Ab + 1),k.keep [0,3,4] z,m.sel [0] z (by decide),As,h⟩
   refine wp_exit (ex_then (ex_then (ex_same (nm_then ?_))))
   refine wr (pN 2 k z fun a k=>nn (wp_ret ?_))
   cases h
   exact finR1 k z (RV.tmp k z) ⟨_,Aa,z,m.ext,(Enc.ow_agr Ag (m.a 0 z)),(m.fresh 0 z)⟩
 exact ⟨x5,Al,[g7],w9,0,k.keep [0,3,4] z,m.sel [0] z (by decide),Ak,h⟩
theorem c_laws_toType (fu:Nat) {w0:World} (a1:Typ)  {r:Typ}
    (h:d_laws_toType fu a1 = some r) :
    Calls Tryz.prog 177 #[.agg (Flat.e (a1)).toArray] w0 fun e w=>e = .returned (.agg (Flat.e r).toArray) ∧ Ext [] w0 w:=by
 refine enter (vs:=[_]) func177 z ntmps177 z fun a k=>?_
 have m:=St.start w0
 unfold d_laws_toType at h
 refine wr (s_box (cs:=[I a1.fId,I a1.fW,I a1.fH,I a1.fD,I a1.fTare,I a1.fGram,I a1.fCost]) m k z z z z z z fun b2 w4 a k m e Aa=>s_alloc (cs:=[I 0,I 0,I 0,I 0,I 0,I 0,I 0]) m k zeroValue38 z z z z z fun b5 w7 a k m e Aj=>nn (wr (s_alloc (cs:=[I 0,I 0,I 0,I 0,I 0,I 0,I 0]) m k zeroValue38 z z z z z fun b8 At a k m e Ag=>nn (wr (sv k z (r_fa fa175_0 k z z) fun a k=>sv k z (r_ldb t13 m 2 Aa 0 k z z z z z) fun a k=>sv k z (r_fa fa38_0 k z z) fun a k=>?_)))))
 refine s_stb (cs':=[I a1.fId,I 0,I 0,I 0,I 0,I 0,I 0]) sizeOf3 m 0 Ag 0 k z z z z z z z z z z z fun As a k e m Ac=>nn (wr (sv k z (r_fa fa175_1 k z z) fun a k=>sv k z (r_ldb t13 m 2 Aa 1 k z z z z z) fun a k=>sv k z (r_fa fa38_1 k z z) fun a k=>s_stb (cs':=[I a1.fId,I a1.fW,I 0,I 0,I 0,I 0,I 0]) sizeOf3 m 0 Ac 1 k z z z z z z z z z z z fun Am a k e m Ad=>nn (wr (sv k z (r_fa fa175_2 k z z) fun a k=>sv k z (r_ldb t13 m 2 Aa 2 k z z z z z) fun a k=>sv k z (r_fa fa38_2 k z z) fun a k=>?_))))
 refine s_stb (cs':=[I a1.fId,I a1.fW,I a1.fH,I 0,I 0,I 0,I 0]) sizeOf3 m 0 Ad 2 k z z z z z z z z z z z fun Au a k e m Ai=>nn (wr (sv k z (r_fa fa175_3 k z z) fun a k=>sv k z (r_ldb t13 m 2 Aa 3 k z z z z z) fun a k=>sv k z (r_fa fa38_3 k z z) fun a k=>s_stb (cs':=[I a1.fId,I a1.fW,I a1.fH,I a1.fD,I 0,I 0,I 0]) sizeOf3 m 0 Ai 3 k z z z z z z z z z z z fun Al a k e m Ae=>nn (wr (sv k z (r_fa fa175_4 k z z) fun a k=>sv k z (r_ldb t13 m 2 Aa 4 k z z z z z) fun a k=>sv k z (r_fa fa38_4 k z z) fun a k=>?_))))
 refine s_stb (cs':=[I a1.fId,I a1.fW,I a1.fH,I a1.fD,I a1.fTare,I 0,I 0]) sizeOf3 m 0 Ae 4 k z z z z z z z z z z z fun Aq a k e m Ak=>nn (wr (sv k z (r_fa fa175_5 k z z) fun a k=>sv k z (r_ldb t13 m 2 Aa 5 k z z z z z) fun a k=>sv k z (r_fa fa38_5 k z z) fun a k=>s_stb (cs':=[I a1.fId,I a1.fW,I a1.fH,I a1.fD,I a1.fTare,I a1.fGram,I 0]) sizeOf3 m 0 Ak 5 k z z z z z z z z z z z fun Ar a k e m Af=>?_))
 have k:=k.keep [1,2,3] z
 refine nn (wr (sv k z (r_fa fa175_6 k z z) fun a k=>sv k z (r_ldb t13 m 2 Aa 6 k z z z z z) fun a k=>sv k z (r_fa fa38_6 k z z) fun a k=>s_stb (cs':=[I a1.fId,I a1.fW,I a1.fH,I a1.fD,I a1.fTare,I a1.fGram,I a1.fCost]) sizeOf3 m 0 Af 6 k z z z z z z z z z z z fun Ap a k e m Ah=>nn (wr (sv k z (r_ldB ta38 m 0 Ah 0 k z z z z z z) fun a k=>s_stb (cs':=[I a1.fId,I a1.fW,I a1.fH,I a1.fD,I a1.fTare,I a1.fGram,I a1.fCost]) sizeOf38 m 1 Aj 0 k z z z z z z z z z z z fun Ao a k e m Ab=>nn (wp_ret ?_)))))
 cases h
 exact finR1 k z (RV.cA k z ta38 (Ab.at (m.a 1 z) 0 7 z z z) z) ⟨z,m.ext⟩
theorem c_laws_toTypeS (fu:Nat) {w0:World} (a1:List Typ) {v2:Value} {F3:List Nat} (Ac:rd w0 F3 [v2] a1) {r:(List Typ)}
    (h:d_laws_toTypeS fu a1 = some r) :
    Calls Tryz.prog 91 #[v2] w0 fun e w=>∃ (v0:Value) (G0:List Nat),e = .returned (v0) ∧ Ext [] w0 w ∧ ow w G0 [v0] r ∧ (∀ b ∈ G0,w0.heap.size ≤ b):=by
 refine enter (vs:=[_]) func91 z ntmps91 z fun a k=>?_
 have m:=St.start w0
 unfold d_laws_toTypeS at h
 refine wr (pN 1 k z fun a k=>nn (wr (pN 1 k z fun a k=>sv k z (r_len (α:=Typ) Ac k underlying49 z z) fun a k=>oE h fun x5 Am h=>s_mk Am te27 z z m k z z z z z z fun g7 w9 a Al k m e Ak=>pN 1 k z fun a k=>nn (wp_seq (wr (pN 1 k z fun a k=>nn (wp_block (c_loop (fun n a w=>∃ (Ae:List Typ) (Ad:Value) (Aa:List Nat) (Af:World) (Ab:Int),K 23 [(0,v2),(3,Ad),(4,I Ab)] a ∧ St [] w0 w [(Aa,Af)] ∧ ow Af Aa [Ad] Ae ∧ d_laws_toTypeS_L1 fu a1 n Ae Ab = some r) ?_ ?_ fu _ _ ?_))))))))
 · rintro a w ⟨_,_,_,_,_,_,_,_,h⟩
   exact nS h
 · rintro Av a Au ⟨Ae,Ad,Aa,Af,Ab,k,m,Ag,h⟩
   rw [d_laws_toTypeS_L1_s] at h
   unfold d_laws_toTypeS_L1_B at h
   refine wp_seq (wr (pN 2 k z fun a k=>sv k z (r_len (α:=Typ) Ac k underlying49 z z) fun a k=>pN 1 k z fun a k=>nn (cI h k z (fun Ao h=>?_) fun Ao h=>?_)))
   · refine wp_skip (nm_then ?_)
     refine wp_seq (wp_block (wp_region_lit (pN 4 k z fun a k=>oE h fun Aq Ah h=>sv k z (r_ixa Ac Ah k ts49 z z z) fun a k=>sv k z (r_lde Ac (m.a00 (Enc.rd_lt Ac)) Ah ta175 k z z) fun a k=>oE h fun Aj Ap h=>cE k m call177 z z z (c_laws_toType fu (Aq:Typ)  Ap) fun At e a k m=>oE h fun Aw Ai h=>sv k z (r_ixa (Enc.ow_rd Ag) Ai k ts27 z z z) fun a k=>s_ste (α:=Typ) (sz:=7) (y:=Aj) sizeOf38 Ai m 0 Ag 0 k z z z z z z z z z z z z fun Ar a k e m As=>wpList_nil (nm_block (nm_then ?_)))))
     refine wp_region_lit (pN 3 k z fun a k=>nn ?_)
     exact ⟨setx Ae Ab Aj,Ad,Aa,Ar,w64 (Ab + 1),k.keep [0,3,4] z,m.sel [0] z (by decide),As,h⟩
   refine wp_exit (ex_then (ex_then (ex_same (nm_then ?_))))
   refine wr (pN 2 k z fun a k=>nn (wp_ret ?_))
   cases h
   exact finR1 k z (RV.tmp k z) ⟨_,Aa,z,m.ext,(Enc.ow_agr Ag (m.a 0 z)),(m.fresh 0 z)⟩
 exact ⟨x5,Al,[g7],w9,0,k.keep [0,3,4] z,m.sel [0] z (by decide),Ak,h⟩
theorem c_laws_toItem (fu:Nat) {w0:World} (a1:Item)  {r:Item}
    (h:d_laws_toItem fu a1 = some r) :
    Calls Tryz.prog 178 #[.agg (Flat.e (a1)).toArray] w0 fun e w=>e = .returned (.agg (Flat.e r).toArray) ∧ Ext [] w0 w:=by
 refine enter (vs:=[_]) func178 z ntmps178 z fun a k=>?_
 have m:=St.start w0
 unfold d_laws_toItem at h
 refine wr (s_box (cs:=[I a1.fId,I a1.fW,I a1.fH,I a1.fD,I a1.fGram,I a1.fClass,I a1.fCount]) m k z z z z z z fun b2 w4 a k m e Aa=>s_alloc (cs:=[I 0,I 0,I 0,I 0,I 0,I 0,I 0]) m k zeroValue97 z z z z z fun b5 w7 a k m e Aj=>nn (wr (s_alloc (cs:=[I 0,I 0,I 0,I 0,I 0,I 0,I 0]) m k zeroValue97 z z z z z fun b8 At a k m e Ag=>nn (wr (sv k z (r_fa fa177_0 k z z) fun a k=>sv k z (r_ldb t13 m 2 Aa 0 k z z z z z) fun a k=>sv k z (r_fa fa97_0 k z z) fun a k=>?_)))))
 refine s_stb (cs':=[I a1.fId,I 0,I 0,I 0,I 0,I 0,I 0]) sizeOf3 m 0 Ag 0 k z z z z z z z z z z z fun As a k e m Ac=>nn (wr (sv k z (r_fa fa177_1 k z z) fun a k=>sv k z (r_ldb t13 m 2 Aa 1 k z z z z z) fun a k=>sv k z (r_fa fa97_1 k z z) fun a k=>s_stb (cs':=[I a1.fId,I a1.fW,I 0,I 0,I 0,I 0,I 0]) sizeOf3 m 0 Ac 1 k z z z z z z z z z z z fun Am a k e m Ad=>nn (wr (sv k z (r_fa fa177_2 k z z) fun a k=>sv k z (r_ldb t13 m 2 Aa 2 k z z z z z) fun a k=>sv k z (r_fa fa97_2 k z z) fun a k=>?_))))
 refine s_stb (cs':=[I a1.fId,I a1.fW,I a1.fH,I 0,I 0,I 0,I 0]) sizeOf3 m 0 Ad 2 k z z z z z z z z z z z fun Au a k e m Ai=>nn (wr (sv k z (r_fa fa177_3 k z z) fun a k=>sv k z (r_ldb t13 m 2 Aa 3 k z z z z z) fun a k=>sv k z (r_fa fa97_3 k z z) fun a k=>s_stb (cs':=[I a1.fId,I a1.fW,I a1.fH,I a1.fD,I 0,I 0,I 0]) sizeOf3 m 0 Ai 3 k z z z z z z z z z z z fun Al a k e m Ae=>nn (wr (sv k z (r_fa fa177_4 k z z) fun a k=>sv k z (r_ldb t13 m 2 Aa 4 k z z z z z) fun a k=>sv k z (r_fa fa97_4 k z z) fun a k=>?_))))
 refine s_stb (cs':=[I a1.fId,I a1.fW,I a1.fH,I a1.fD,I a1.fGram,I 0,I 0]) sizeOf3 m 0 Ae 4 k z z z z z z z z z z z fun Aq a k e m Ak=>nn (wr (sv k z (r_fa fa177_5 k z z) fun a k=>sv k z (r_ldb t13 m 2 Aa 5 k z z z z z) fun a k=>sv k z (r_fa fa97_5 k z z) fun a k=>s_stb (cs':=[I a1.fId,I a1.fW,I a1.fH,I a1.fD,I a1.fGram,I a1.fClass,I 0]) sizeOf3 m 0 Ak 5 k z z z z z z z z z z z fun Ar a k e m Af=>?_))
 have k:=k.keep [1,2,3] z
 refine nn (wr (sv k z (r_fa fa177_6 k z z) fun a k=>sv k z (r_ldb t13 m 2 Aa 6 k z z z z z) fun a k=>sv k z (r_fa fa97_6 k z z) fun a k=>s_stb (cs':=[I a1.fId,I a1.fW,I a1.fH,I a1.fD,I a1.fGram,I a1.fClass,I a1.fCount]) sizeOf3 m 0 Af 6 k z z z z z z z z z z z fun Ap a k e m Ah=>nn (wr (sv k z (r_ldB ta97 m 0 Ah 0 k z z z z z z) fun a k=>s_stb (cs':=[I a1.fId,I a1.fW,I a1.fH,I a1.fD,I a1.fGram,I a1.fClass,I a1.fCount]) sizeOf97 m 1 Aj 0 k z z z z z z z z z z z fun Ao a k e m Ab=>nn (wp_ret ?_)))))
 cases h
 exact finR1 k z (RV.cA k z ta97 (Ab.at (m.a 1 z) 0 7 z z z) z) ⟨z,m.ext⟩
theorem c_laws_toItemS (fu:Nat) {w0:World} (a1:List Item) {v2:Value} {F3:List Nat} (Ac:rd w0 F3 [v2] a1) {r:(List Item)}
    (h:d_laws_toItemS fu a1 = some r) :
    Calls Tryz.prog 92 #[v2] w0 fun e w=>∃ (v0:Value) (G0:List Nat),e = .returned (v0) ∧ Ext [] w0 w ∧ ow w G0 [v0] r ∧ (∀ b ∈ G0,w0.heap.size ≤ b):=by
 refine enter (vs:=[_]) func92 z ntmps92 z fun a k=>?_
 have m:=St.start w0
 unfold d_laws_toItemS at h
 refine wr (pN 1 k z fun a k=>nn (wr (pN 1 k z fun a k=>sv k z (r_len (α:=Item) Ac k underlying50 z z) fun a k=>oE h fun x5 Am h=>s_mk Am te28 z z m k z z z z z z fun g7 w9 a Al k m e Ak=>pN 1 k z fun a k=>nn (wp_seq (wr (pN 1 k z fun a k=>nn (wp_block (c_loop (fun n a w=>∃ (Ae:List Item) (Ad:Value) (Aa:List Nat) (Af:World) (Ab:Int),K 23 [(0,v2),(3,Ad),(4,I Ab)] a ∧ St [] w0 w [(Aa,Af)] ∧ ow Af Aa [Ad] Ae ∧ d_laws_toItemS_L1 fu a1 n Ae Ab = some r) ?_ ?_ fu _ _ ?_))))))))
 · rintro a w ⟨_,_,_,_,_,_,_,_,h⟩
   exact nS h
 · rintro Av a Au ⟨Ae,Ad,Aa,Af,Ab,k,m,Ag,h⟩
   rw [d_laws_toItemS_L1_s] at h
   unfold d_laws_toItemS_L1_B at h
   refine wp_seq (wr (pN 2 k z fun a k=>sv k z (r_len (α:=Item) Ac k underlying50 z z) fun a k=>pN 1 k z fun a k=>nn (cI h k z (fun Ao h=>?_) fun Ao h=>?_)))
   · refine wp_skip (nm_then ?_)
     refine wp_seq (wp_block (wp_region_lit (pN 4 k z fun a k=>oE h fun Aq Ah h=>sv k z (r_ixa Ac Ah k ts50 z z z) fun a k=>sv k z (r_lde Ac (m.a00 (Enc.rd_lt Ac)) Ah ta177 k z z) fun a k=>oE h fun Aj Ap h=>cE k m call178 z z z (c_laws_toItem fu (Aq:Item)  Ap) fun At e a k m=>oE h fun Aw Ai h=>sv k z (r_ixa (Enc.ow_rd Ag) Ai k ts28 z z z) fun a k=>s_ste (α:=Item) (sz:=7) (y:=Aj) sizeOf97 Ai m 0 Ag 0 k z z z z z z z z z z z z fun Ar a k e m As=>wpList_nil (nm_block (nm_then ?_)))))
     refine wp_region_lit (pN 3 k z fun a k=>nn ?_)
     exact ⟨setx Ae Ab Aj,Ad,Aa,Ar,w64 (Ab + 1),k.keep [0,3,4] z,m.sel [0] z (by decide),As,h⟩
   refine wp_exit (ex_then (ex_then (ex_same (nm_then ?_))))
   refine wr (pN 2 k z fun a k=>nn (wp_ret ?_))
   cases h
   exact finR1 k z (RV.tmp k z) ⟨_,Aa,z,m.ext,(Enc.ow_agr Ag (m.a 0 z)),(m.fresh 0 z)⟩
 exact ⟨x5,Al,[g7],w9,0,k.keep [0,3,4] z,m.sel [0] z (by decide),Ak,h⟩
theorem c_laws_toRequest (fu:Nat) {w0:World} (a1:Request) {Ak:List Value} {F3:List Nat} (Bd:rd w0 F3 Ak a1) {r:Request}
    (h:d_laws_toRequest fu a1 = some r) :
    Calls Tryz.prog 26 #[.agg Ak.toArray] w0 fun e w=>∃ (Ai:List Value) (G0:List Nat),e = .returned (.agg Ai.toArray) ∧ Ext [] w0 w ∧ ow w G0 Ai r ∧ (∀ b ∈ G0,w0.heap.size ≤ b):=by
 refine enter (vs:=[_]) func26 z ntmps26 z fun a k=>?_
 have m:=St.start w0
 obtain ⟨v5,F6,v7,F8,v9,Bz,rfl,rfl,Aj,Al,Ap⟩:=Bd
 unfold d_laws_toRequest at h
 refine wr (s_box (cs:=[I a1.fWay,I a1.fPallet.fW,I a1.fPallet.fD,I a1.fPallet.fH,I a1.fPallet.fGram,I a1.fClasses,v5,v7,I a1.fMaster,v9]) m k z z z z z z fun Bo Ca a k m e Ab=>s_alloc (cs:=[I 0,I 0,I 0,I 0,I 0,I 0,.slice none 0 0,.slice none 0 0,I 0,.slice none 0 0]) m k zeroValue30 z z z z z fun Bj Cb a k m e Ay=>nn (wr (s_alloc (cs:=[I 0,I 0,I 0,I 0,I 0,I 0,.slice none 0 0,.slice none 0 0,I 0,.slice none 0 0]) m k zeroValue30 z z z z z fun Bq Bp a k m e Av=>nn (wr (sv k z (r_fa fa52_0 k z z) fun a k=>?_)))))
 refine sv k z (r_ldb t13 m 2 Ab 0 k z z z z z) fun a k=>sv k z (r_fa fa30_0 k z z) fun a k=>s_stb (cs':=[I a1.fWay,I 0,I 0,I 0,I 0,I 0,.slice none 0 0,.slice none 0 0,I 0,.slice none 0 0]) sizeOf3 m 0 Av 0 k z z z z z z z z z z z fun Bs a k e m Bf=>nn (wr (sv k z (r_fa fa52_1 k z z) fun a k=>sv k z (r_ldB ta47 m 2 Ab 1 k z z z z z z) fun a k=>oE h fun Aa Ax h=>cE k m call89 z z z (c_laws_toPallet fu (a1.fPallet:Pallet)  Ax) fun Bm e a k m=>sv k z (r_fa fa30_1 k z z) fun a k=>?_))
 refine s_stb (cs':=[I a1.fWay,I Aa.fW,I Aa.fD,I Aa.fH,I Aa.fGram,I 0,.slice none 0 0,.slice none 0 0,I 0,.slice none 0 0]) sizeOf25 m 0 Bf 1 k z z z z z z z z z z z fun Bk a k e m Bg=>nn (wr (sv k z (r_fa fa52_2 k z z) fun a k=>sv k z (r_ldb t13 m 2 Ab 5 k z z z z z) fun a k=>sv k z (r_fa fa30_2 k z z) fun a k=>s_stb (cs':=[I a1.fWay,I Aa.fW,I Aa.fD,I Aa.fH,I Aa.fGram,I a1.fClasses,.slice none 0 0,.slice none 0 0,I 0,.slice none 0 0]) sizeOf3 m 0 Bg 5 k z z z z z z z z z z z fun Bx a k e m Bi=>nn (wr (sv k z (r_fa fa52_3 k z z) fun a k=>?_))))
 refine sv k z (r_ldb t148 m 2 Ab 6 k z z z z z) fun a k=>oE h fun Cg Ba h=>s_call k call90 z z z z z (c_laws_toPairS fu _ (Enc.rd_agr Aj (m.a00 (Enc.rd_lt Aj))) Ba) fun Cc Bn hR=>?_
 obtain ⟨Af,Am,rfl,e,Ad,Aw⟩:=hR
 refine ⟨_,z,fun a k=>?_⟩
 have m:=m.new e Am (fun b hb=>⟨Aw b hb,Enc.rd_lt (Enc.ow_rd Ad) b hb⟩) (Enc.ow_nd Ad)
 refine sv k z (r_fa fa30_3 k z z) fun a k=>s_stb1 (cs':=[I a1.fWay,I Aa.fW,I Aa.fD,I Aa.fH,I Aa.fGram,I a1.fClasses,Af,.slice none 0 0,I 0,.slice none 0 0]) sizeOf26 m 1 Bi 6 k (rd_c (Enc.ow_rd Ad)) (rd_o (Enc.ow_rd Ad)) z z z z z z z z z fun Bv a k e m At=>nn (wr (sv k z (r_fa fa52_4 k z z) fun a k=>sv k z (r_ldb t149 m 3 Ab 7 k z z z z z) fun a k=>oE h fun Cd As h=>s_call k call91 z z z z z (c_laws_toTypeS fu _ (Enc.rd_agr Al (m.a00 (Enc.rd_lt Al))) As) fun Ce Bt hR=>?_))
 obtain ⟨Ag,Ao,rfl,e,Ac,Au⟩:=hR
 refine ⟨_,z,fun a k=>?_⟩
 have m:=m.new e Ao (fun b hb=>⟨Au b hb,Enc.rd_lt (Enc.ow_rd Ac) b hb⟩) (Enc.ow_nd Ac)
 refine sv k z (r_fa fa30_4 k z z) fun a k=>s_stb1 (cs':=[I a1.fWay,I Aa.fW,I Aa.fD,I Aa.fH,I Aa.fGram,I a1.fClasses,Af,Ag,I 0,.slice none 0 0]) sizeOf27 m 2 At 7 k (rd_c (Enc.ow_rd Ac)) (rd_o (Enc.ow_rd Ac)) z z z z z z z z z fun Bl a k e m Az=>nn (wr (sv k z (r_fa fa52_5 k z z) fun a k=>sv k z (r_ldb t13 m 4 Ab 8 k z z z z z) fun a k=>sv k z (r_fa fa30_5 k z z) fun a k=>s_stb (cs':=[I a1.fWay,I Aa.fW,I Aa.fD,I Aa.fH,I Aa.fGram,I a1.fClasses,Af,Ag,I a1.fMaster,.slice none 0 0]) sizeOf3 m 2 Az 8 k z z z z z z z z z z z fun Bw a k e m Bb=>?_))
 have k:=k.keep [1,2,3] z
 refine nn (wr (sv k z (r_fa fa52_6 k z z) fun a k=>sv k z (r_ldb t150 m 4 Ab 9 k z z z z z) fun a k=>oE h fun Cf Be h=>s_call k call92 z z z z z (c_laws_toItemS fu _ (Enc.rd_agr Ap (m.a00 (Enc.rd_lt Ap))) Be) fun Ch Bu hR=>?_))
 obtain ⟨Ah,Aq,rfl,e,Ae,Bc⟩:=hR
 refine ⟨_,z,fun a k=>?_⟩
 have m:=m.new e Aq (fun b hb=>⟨Bc b hb,Enc.rd_lt (Enc.ow_rd Ae) b hb⟩) (Enc.ow_nd Ae)
 refine sv k z (r_fa fa30_6 k z z) fun a k=>s_stb1 (cs':=[I a1.fWay,I Aa.fW,I Aa.fD,I Aa.fH,I Aa.fGram,I a1.fClasses,Af,Ag,I a1.fMaster,Ah]) sizeOf28 m 3 Bb 9 k (rd_c (Enc.ow_rd Ae)) (rd_o (Enc.ow_rd Ae)) z z z z z z z z z fun Br a k e m Bh=>nn (wr (sv k z (r_ldB ta30 m 3 Bh 0 k z z z z z z) fun a k=>?_))
 refine s_stb (cs':=[I a1.fWay,I Aa.fW,I Aa.fD,I Aa.fH,I Aa.fGram,I a1.fClasses,Af,Ag,I a1.fMaster,Ah]) sizeOf30 m 4 Ay 0 k z z z z z z z z z z (allc z (allc z (allc z (allc z (allc z (allc z (allc (rd_o (Enc.ow_rd Ad)) (allc (rd_o (Enc.ow_rd Ac)) (allc z (allc (rd_o (Enc.ow_rd Ae)) alln)))))))))) fun By a k e m Ar=>nn (wp_ret ?_)
 cases h
 exact finR1 k z (RV.cA k z ta30 (Ar.at (m.a 4 z) 0 10 z z z) z) ⟨_,_,z,m.ext,⟨_,Am,_,Ao,_,Aq,z,z,(Enc.ow_agr Ad (m.a 2 z)),(Enc.ow_agr Ac (m.a 1 z)),(Enc.ow_agr Ae (m.a 0 z)),by simpa [fps] using (m.sel [2,1,0] z (by decide)).nd⟩,(app_fresh (m.fresh 2 z) (app_fresh (m.fresh 1 z) (m.fresh 0 z)))⟩
theorem c_laws_toIntS (fu:Nat) {w0:World} (a1:List Int) {v2:Value} {F3:List Nat} (Ac:rd w0 F3 [v2] a1) {r:(List Int)}
    (h:d_laws_toIntS fu a1 = some r) :
    Calls Tryz.prog 52 #[v2] w0 fun e w=>∃ (v0:Value) (G0:List Nat),e = .returned (v0) ∧ Ext [] w0 w ∧ ow w G0 [v0] r ∧ (∀ b ∈ G0,w0.heap.size ≤ b):=by
 refine enter (vs:=[_]) func52 z ntmps52 z fun a k=>?_
 have m:=St.start w0
 unfold d_laws_toIntS at h
 refine wr (pN 1 k z fun a k=>nn (wr (pN 1 k z fun a k=>sv k z (r_len (α:=Int) Ac k underlying31 z z) fun a k=>oE h fun x5 Ao h=>s_mk Ao te31 z z m k z z z z z z fun g7 w9 a Am k m e Ak=>pN 1 k z fun a k=>nn (wp_seq (wr (pN 1 k z fun a k=>nn (wp_block (c_loop (fun n a w=>∃ (Ae:List Int) (Ad:Value) (Aa:List Nat) (Af:World) (Ab:Int),K 22 [(0,v2),(3,Ad),(4,I Ab)] a ∧ St [] w0 w [(Aa,Af)] ∧ ow Af Aa [Ad] Ae ∧ d_laws_toIntS_L1 fu a1 n Ae Ab = some r) ?_ ?_ fu _ _ ?_))))))))
 · rintro a w ⟨_,_,_,_,_,_,_,_,h⟩
   exact nS h
 · rintro As a Ar ⟨Ae,Ad,Aa,Af,Ab,k,m,Ag,h⟩
   rw [d_laws_toIntS_L1_s] at h
   unfold d_laws_toIntS_L1_B at h
   refine wp_seq (wr (pN 2 k z fun a k=>sv k z (r_len (α:=Int) Ac k underlying31 z z) fun a k=>pN 1 k z fun a k=>nn (cI h k z (fun Aq h=>?_) fun Aq h=>?_)))
   · refine wp_skip (nm_then ?_)
     refine wp_seq (wp_block (wp_region_lit (pN 4 k z fun a k=>oE h fun Ah Aj h=>sv k z (r_ixa Ac Aj k ts31 z z z) fun a k=>sv k z (r_lde1 Ac (m.a00 (Enc.rd_lt Ac)) Aj 0 t13 k z z z z) fun a k=>oE h fun At Ai h=>sv k z (r_ixa (Enc.ow_rd Ag) Ai k ts31 z z z) fun a k=>s_ste (α:=Int) (sz:=1) (y:=Ah) sizeOf3 Ai m 0 Ag 0 k z z z z z z z z z z z z fun Ap a k e m Al=>wpList_nil (nm_block (nm_then ?_)))))
     refine wp_region_lit (pN 3 k z fun a k=>nn ?_)
     exact ⟨setx Ae Ab Ah,Ad,Aa,Ap,w64 (Ab + 1),k.keep [0,3,4] z,m.sel [0] z (by decide),Al,h⟩
   refine wp_exit (ex_then (ex_then (ex_same (nm_then ?_))))
   refine wr (pN 2 k z fun a k=>nn (wp_ret ?_))
   cases h
   exact finR1 k z (RV.tmp k z) ⟨_,Aa,z,m.ext,(Enc.ow_agr Ag (m.a 0 z)),(m.fresh 0 z)⟩
 exact ⟨x5,Am,[g7],w9,0,k.keep [0,3,4] z,m.sel [0] z (by decide),Ak,h⟩
theorem c_laws_toCarton (fu:Nat) {w0:World} (a1:Carton) {Ae:List Value} {F3:List Nat} (Ak:rd w0 F3 Ae a1) {r:Carton}
    (h:d_laws_toCarton fu a1 = some r) :
    Calls Tryz.prog 208 #[.agg Ae.toArray] w0 fun e w=>∃ (Ac:List Value) (G0:List Nat),e = .returned (.agg Ac.toArray) ∧ Ext [] w0 w ∧ ow w G0 Ac r ∧ (∀ b ∈ G0,w0.heap.size ≤ b):=by
 refine enter (vs:=[_]) func208 z ntmps208 z fun a k=>?_
 have m:=St.start w0
 obtain ⟨v5,_,rfl,rfl,Af⟩:=Ak
 unfold d_laws_toCarton at h
 refine wr (s_box (cs:=[I a1.fType,I a1.fGroup,v5]) m k z z z z z z fun b7 w9 a k m e Ab=>s_alloc (cs:=[I 0,I 0,.slice none 0 0]) m k zeroValue33 z z z z z fun Az Ar a k m e Ah=>nn (wr (s_alloc (cs:=[I 0,I 0,.slice none 0 0]) m k zeroValue33 z z z z z fun Aw Ba a k m e Ai=>nn (wr (sv k z (r_fa fa190_0 k z z) fun a k=>sv k z (r_ldb t13 m 2 Ab 0 k z z z z z) fun a k=>sv k z (r_fa fa33_0 k z z) fun a k=>s_stb (cs':=[I a1.fType,I 0,.slice none 0 0]) sizeOf3 m 0 Ai 0 k z z z z z z z z z z z fun Ay a k e m Aj=>nn (wr (sv k z (r_fa fa190_1 k z z) fun a k=>sv k z (r_ldb t13 m 2 Ab 1 k z z z z z) fun a k=>?_)))))))
 refine sv k z (r_fa fa33_1 k z z) fun a k=>s_stb (cs':=[I a1.fType,I a1.fGroup,.slice none 0 0]) sizeOf3 m 0 Aj 1 k z z z z z z z z z z z fun Bb a k e m Aq=>nn (wr (sv k z (r_fa fa190_2 k z z) fun a k=>sv k z (r_ldb t131 m 2 Ab 2 k z z z z z) fun a k=>oE h fun Av Ap h=>s_call k call52 z z z z z (c_laws_toIntS fu _ (Enc.rd_agr Af (m.a00 (Enc.rd_lt Af))) Ap) fun At Au hR=>?_))
 obtain ⟨Ad,Ag,rfl,e,Aa,Am⟩:=hR
 refine ⟨_,z,fun a k=>?_⟩
 have m:=m.new e Ag (fun b hb=>⟨Am b hb,Enc.rd_lt (Enc.ow_rd Aa) b hb⟩) (Enc.ow_nd Aa)
 refine sv k z (r_fa fa33_2 k z z) fun a k=>s_stb1 (cs':=[I a1.fType,I a1.fGroup,Ad]) sizeOf31 m 1 Aq 2 k (rd_c (Enc.ow_rd Aa)) (rd_o (Enc.ow_rd Aa)) z z z z z z z z z fun As a k e m Al=>nn (wr (sv k z (r_ldB ta33 m 1 Al 0 k z z z z z z) fun a k=>s_stb (cs':=[I a1.fType,I a1.fGroup,Ad]) sizeOf33 m 2 Ah 0 k z z z z z z z z z z (allc z (allc z (allc (rd_o (Enc.ow_rd Aa)) alln))) fun Ax a k e m Ao=>nn (wp_ret ?_)))
 cases h
 exact finR1 k z (RV.cA k z ta33 (Ao.at (m.a 2 z) 0 3 z z z) z) ⟨_,_,z,m.ext,⟨_,Ag,z,z,(Enc.ow_agr Aa (m.a 0 z)),by simpa [fps] using (m.sel [0] z (by decide)).nd⟩,(m.fresh 0 z)⟩
theorem c_laws_toCartonS (fu:Nat) {w0:World} (a1:List Carton) {v2:Value} {F3:List Nat} (Ac:rd w0 F3 [v2] a1) {r:(List Carton)}
    (h:d_laws_toCartonS fu a1 = some r) :
    Calls Tryz.prog 118 #[v2] w0 fun e w=>∃ (v0:Value) (G0:List Nat),e = .returned (v0) ∧ Ext [] w0 w ∧ ow w G0 [v0] r ∧ (∀ b ∈ G0,w0.heap.size ≤ b):=by
 refine enter (vs:=[_]) func118 z ntmps118 z fun a k=>?_
 have m:=St.start w0
 unfold d_laws_toCartonS at h
 refine wr (pN 1 k z fun a k=>nn (wr (pN 1 k z fun a k=>sv k z (r_len (α:=Carton) Ac k underlying66 z z) fun a k=>oE h fun x5 Bd h=>s_mkN Bd te43 (fun w=>⟨.slice none 0 0,[],z,z,ow_nil _,by simp⟩) z m k z z z z z z fun g7 w9 a Ay k m e As=>pN 1 k z fun a k=>nn (wp_seq (wr (pN 1 k z fun a k=>nn (wp_block (c_loop (fun n a w=>∃ (Af:List Carton) (Ad:Value) (Ag:List Nat) (Ah:World) (Ab:Int),K 23 [(0,v2),(3,Ad),(4,I Ab)] a ∧ St [] w0 w [(Ag,Ah)] ∧ ow Ah Ag [Ad] Af ∧ d_laws_toCartonS_L1 fu a1 n Af Ab = some r) ?_ ?_ fu _ _ ?_))))))))
 · rintro a w ⟨_,_,_,_,_,_,_,_,h⟩
   exact nS h
 · rintro Bw a Br ⟨Af,Ad,Ag,Ah,Ab,k,m,Ae,h⟩
   rw [d_laws_toCartonS_L1_s] at h
   unfold d_laws_toCartonS_L1_B at h
   refine wp_seq (wr (pN 2 k z fun a k=>sv k z (r_len (α:=Carton) Ac k underlying66 z z) fun a k=>pN 1 k z fun a k=>nn (cI h k z (fun Aw h=>?_) fun Aw h=>?_)))
   · refine wp_skip (nm_then ?_)
     refine wp_seq (wp_block (wp_region_lit (pN 4 k z fun a k=>oE h fun Al Ao h=>sv k z (r_ixa Ac Ao k ts66 z z z) fun a k=>?_)))
     obtain ⟨Bp,Bn,Cc,Bi,Bc,At⟩:=rd_get Ac (ix_some Ao).2.2
     obtain ⟨Bm,_,rfl,rfl,Am⟩:=Bi
     refine sv k z (r_ldA ta190 (Bc.agr (m.a00 (Enc.rd_lt Ac)) At) z k z z) fun a k=>oE h fun Aa Bl h=>s_call k call208 z z z z z (c_laws_toCarton fu _ (show rd _ _ [I Al.fType,I Al.fGroup,Bm] (Al:Carton) from ⟨_,_,z,z,(Enc.rd_agr Am (m.a00 (Enc.rd_lt Am)))⟩) Bl) fun By Ar hR=>?_
     obtain ⟨Bv,Ai,rfl,e,Ak,Az⟩:=hR
     refine ⟨_,z,fun a k=>?_⟩
     have m:=m.new e Ai (fun b hb=>⟨Az b hb,Enc.rd_lt (Enc.ow_rd Ak) b hb⟩) (Enc.ow_nd Ak)
     obtain ⟨Aq,_,rfl,rfl,Ap,_⟩:=Ak
     refine oE h fun Bs Aj h=>sv k z (r_ixa (Enc.ow_rd Ae) Aj k ts43 z z z) fun a k=>?_
     obtain ⟨Cb,Bu,Bt,Be,Bh,Bz⟩:=rd_get (Enc.ow_rd Ae) (ix_some Aj).2.2
     obtain ⟨Ax,_,rfl,rfl,Bx⟩:=Be
     obtain ⟨Bo,Ca,m,Ba,Bg⟩:=m.opn 1 z Ae Aj Bh z (M':=[(Ai,Ar)]) z
     obtain ⟨Bj,_,Bb,rfl,Bq,_⟩:=Bg
     obtain rfl:Ax = Bj:=by simpa using Bb
     refine s_stH (α:=Carton) (sz:=3) (cs':=[I Aa.fType,I Aa.fGroup,Aq]) sizeOf33 m 0 Ba 0 k z z z z z z z z z (allc z (allc z (allc (rd_o (Enc.ow_rd Ap)) alln))) z z fun Bk a k e m Bf=>?_
     obtain ⟨Av,m,Au⟩:=(m.sel [0,2] z (by decide)).cls Bf (show ow Ar Ai [I Aa.fType,I Aa.fGroup,Aq] (Aa:Carton) from ⟨_,_,z,z,Ap,(m.ndF 2 z)⟩)
     refine wpList_nil (nm_block (nm_then ?_))
     refine wp_region_lit (pN 3 k z fun a k=>nn ?_)
     exact ⟨setx Af Ab Aa,Ad,Av,Bk,w64 (Ab + 1),k.keep [0,3,4] z,m.sel [0] z (by decide),Au,h⟩
   refine wp_exit (ex_then (ex_then (ex_same (nm_then ?_))))
   refine wr (pN 2 k z fun a k=>nn (wp_ret ?_))
   cases h
   exact finR1 k z (RV.tmp k z) ⟨_,Ag,z,m.ext,(Enc.ow_agr Ae (m.a 0 z)),(m.fresh 0 z)⟩
 exact ⟨x5,Ay,[g7],w9,0,k.keep [0,3,4] z,m.sel [0] z (by decide),As,h⟩
theorem c_laws_toSpot (fu:Nat) {w0:World} (a1:Spot)  {r:Spot}
    (h:d_laws_toSpot fu a1 = some r) :
    Calls Tryz.prog 209 #[.agg (Flat.e (a1)).toArray] w0 fun e w=>e = .returned (.agg (Flat.e r).toArray) ∧ Ext [] w0 w:=by
 refine enter (vs:=[_]) func209 z ntmps209 z fun a k=>?_
 have m:=St.start w0
 unfold d_laws_toSpot at h
 refine wr (s_box (cs:=[I a1.fPallet,I a1.fX,I a1.fY,I a1.fZ]) m k z z z z z z fun b2 w4 a k m e Aa=>s_alloc (cs:=[I 0,I 0,I 0,I 0]) m k zeroValue139 z z z z z fun b5 w7 a k m e Ag=>nn (wr (s_alloc (cs:=[I 0,I 0,I 0,I 0]) m k zeroValue139 z z z z z fun b8 Ai a k m e Ab=>nn (wr (sv k z (r_fa fa196_0 k z z) fun a k=>sv k z (r_ldb t13 m 2 Aa 0 k z z z z z) fun a k=>sv k z (r_fa fa139_0 k z z) fun a k=>s_stb (cs':=[I a1.fPallet,I 0,I 0,I 0]) sizeOf3 m 0 Ab 0 k z z z z z z z z z z z fun Ao a k e m Ac=>nn (wr (sv k z (r_fa fa196_1 k z z) fun a k=>?_)))))))
 refine sv k z (r_ldb t13 m 2 Aa 1 k z z z z z) fun a k=>sv k z (r_fa fa139_1 k z z) fun a k=>s_stb (cs':=[I a1.fPallet,I a1.fX,I 0,I 0]) sizeOf3 m 0 Ac 1 k z z z z z z z z z z z fun Am a k e m Ad=>nn (wr (sv k z (r_fa fa196_2 k z z) fun a k=>sv k z (r_ldb t13 m 2 Aa 2 k z z z z z) fun a k=>sv k z (r_fa fa139_2 k z z) fun a k=>s_stb (cs':=[I a1.fPallet,I a1.fX,I a1.fY,I 0]) sizeOf3 m 0 Ad 2 k z z z z z z z z z z z fun Al a k e m Af=>nn (wr (sv k z (r_fa fa196_3 k z z) fun a k=>sv k z (r_ldb t13 m 2 Aa 3 k z z z z z) fun a k=>sv k z (r_fa fa139_3 k z z) fun a k=>?_))))
 refine s_stb (cs':=[I a1.fPallet,I a1.fX,I a1.fY,I a1.fZ]) sizeOf3 m 0 Af 3 k z z z z z z z z z z z fun Ak a k e m Ae=>nn (wr (sv k z (r_ldB ta139 m 0 Ae 0 k z z z z z z) fun a k=>s_stb (cs':=[I a1.fPallet,I a1.fX,I a1.fY,I a1.fZ]) sizeOf139 m 1 Ag 0 k z z z z z z z z z z z fun Aj a k e m Ah=>nn (wp_ret ?_)))
 cases h
 exact finR1 k z (RV.cA k z ta139 (Ah.at (m.a 1 z) 0 4 z z z) z) ⟨z,m.ext⟩
theorem c_laws_toSpotS (fu:Nat) {w0:World} (a1:List Spot) {v2:Value} {F3:List Nat} (Ac:rd w0 F3 [v2] a1) {r:(List Spot)}
    (h:d_laws_toSpotS fu a1 = some r) :
    Calls Tryz.prog 119 #[v2] w0 fun e w=>∃ (v0:Value) (G0:List Nat),e = .returned (v0) ∧ Ext [] w0 w ∧ ow w G0 [v0] r ∧ (∀ b ∈ G0,w0.heap.size ≤ b):=by
 refine enter (vs:=[_]) func119 z ntmps119 z fun a k=>?_
 have m:=St.start w0
 unfold d_laws_toSpotS at h
 refine wr (pN 1 k z fun a k=>nn (wr (pN 1 k z fun a k=>sv k z (r_len (α:=Spot) Ac k underlying67 z z) fun a k=>oE h fun x5 Am h=>s_mk Am te72 z z m k z z z z z z fun g7 w9 a Al k m e Ak=>pN 1 k z fun a k=>nn (wp_seq (wr (pN 1 k z fun a k=>nn (wp_block (c_loop (fun n a w=>∃ (Ae:List Spot) (Ad:Value) (Aa:List Nat) (Af:World) (Ab:Int),K 23 [(0,v2),(3,Ad),(4,I Ab)] a ∧ St [] w0 w [(Aa,Af)] ∧ ow Af Aa [Ad] Ae ∧ d_laws_toSpotS_L1 fu a1 n Ae Ab = some r) ?_ ?_ fu _ _ ?_))))))))
 · rintro a w ⟨_,_,_,_,_,_,_,_,h⟩
   exact nS h
 · rintro Av a Au ⟨Ae,Ad,Aa,Af,Ab,k,m,Ag,h⟩
   rw [d_laws_toSpotS_L1_s] at h
   unfold d_laws_toSpotS_L1_B at h
   refine wp_seq (wr (pN 2 k z fun a k=>sv k z (r_len (α:=Spot) Ac k underlying67 z z) fun a k=>pN 1 k z fun a k=>nn (cI h k z (fun Ao h=>?_) fun Ao h=>?_)))
   · refine wp_skip (nm_then ?_)
     refine wp_seq (wp_block (wp_region_lit (pN 4 k z fun a k=>oE h fun Aq Ah h=>sv k z (r_ixa Ac Ah k ts67 z z z) fun a k=>sv k z (r_lde Ac (m.a00 (Enc.rd_lt Ac)) Ah ta196 k z z) fun a k=>oE h fun Aj Ap h=>cE k m call209 z z z (c_laws_toSpot fu (Aq:Spot)  Ap) fun At e a k m=>oE h fun Aw Ai h=>sv k z (r_ixa (Enc.ow_rd Ag) Ai k ts72 z z z) fun a k=>s_ste (α:=Spot) (sz:=4) (y:=Aj) sizeOf139 Ai m 0 Ag 0 k z z z z z z z z z z z z fun Ar a k e m As=>wpList_nil (nm_block (nm_then ?_)))))
     refine wp_region_lit (pN 3 k z fun a k=>nn ?_)
     exact ⟨setx Ae Ab Aj,Ad,Aa,Ar,w64 (Ab + 1),k.keep [0,3,4] z,m.sel [0] z (by decide),As,h⟩
   refine wp_exit (ex_then (ex_then (ex_same (nm_then ?_))))
   refine wr (pN 2 k z fun a k=>nn (wp_ret ?_))
   cases h
   exact finR1 k z (RV.tmp k z) ⟨_,Aa,z,m.ext,(Enc.ow_agr Ag (m.a 0 z)),(m.fresh 0 z)⟩
 exact ⟨x5,Al,[g7],w9,0,k.keep [0,3,4] z,m.sel [0] z (by decide),Ak,h⟩
theorem c_laws_toPlan (fu:Nat) {w0:World} (a1:Plan) {Ag:List Value} {F3:List Nat} (As:rd w0 F3 Ag a1) {r:Plan}
    (h:d_laws_toPlan fu a1 = some r) :
    Calls Tryz.prog 40 #[.agg Ag.toArray] w0 fun e w=>∃ (Ae:List Value) (G0:List Nat),e = .returned (.agg Ae.toArray) ∧ Ext [] w0 w ∧ ow w G0 Ae r ∧ (∀ b ∈ G0,w0.heap.size ≤ b):=by
 refine enter (vs:=[_]) func40 z ntmps40 z fun a k=>?_
 have m:=St.start w0
 obtain ⟨v5,F6,v7,F8,rfl,rfl,Ai,Ad⟩:=As
 unfold d_laws_toPlan at h
 refine wr (s_box (cs:=[v5,v7]) m k z z z z z z fun Bk Az a k m e Ah=>s_alloc (cs:=[.slice none 0 0,.slice none 0 0]) m k zeroValue74 z z z z z fun Bb Bg a k m e Aq=>nn (wr (s_alloc (cs:=[.slice none 0 0,.slice none 0 0]) m k zeroValue74 z z z z z fun Aw Bh a k m e Ao=>nn (wr (sv k z (r_fa fa69_0 k z z) fun a k=>sv k z (r_ldb t166 m 2 Ah 0 k z z z z z) fun a k=>oE h fun Bd Av h=>s_call k call118 z z z z z (c_laws_toCartonS fu _ (Enc.rd_agr Ai (m.a00 (Enc.rd_lt Ai))) Av) fun Ay Bc hR=>?_)))))
 obtain ⟨Ac,Ak,rfl,e,Aa,Au⟩:=hR
 refine ⟨_,z,fun a k=>?_⟩
 have m:=m.new e Ak (fun b hb=>⟨Au b hb,Enc.rd_lt (Enc.ow_rd Aa) b hb⟩) (Enc.ow_nd Aa)
 refine sv k z (r_fa fa74_0 k z z) fun a k=>s_stb1 (cs':=[Ac,.slice none 0 0]) sizeOf43 m 1 Ao 0 k (rd_c (Enc.ow_rd Aa)) (rd_o (Enc.ow_rd Aa)) z z z z z z z z z fun Ax a k e m At=>nn (wr (sv k z (r_fa fa69_1 k z z) fun a k=>sv k z (r_ldb t167 m 3 Ah 1 k z z z z z) fun a k=>oE h fun Bi Ar h=>s_call k call119 z z z z z (c_laws_toSpotS fu _ (Enc.rd_agr Ad (m.a00 (Enc.rd_lt Ad))) Ar) fun Bf Ba hR=>?_))
 obtain ⟨Af,Aj,rfl,e,Ab,Ap⟩:=hR
 refine ⟨_,z,fun a k=>?_⟩
 have m:=m.new e Aj (fun b hb=>⟨Ap b hb,Enc.rd_lt (Enc.ow_rd Ab) b hb⟩) (Enc.ow_nd Ab)
 refine sv k z (r_fa fa74_1 k z z) fun a k=>s_stb1 (cs':=[Ac,Af]) sizeOf72 m 2 At 1 k (rd_c (Enc.ow_rd Ab)) (rd_o (Enc.ow_rd Ab)) z z z z z z z z z fun Bj a k e m Al=>nn (wr (sv k z (r_ldB ta74 m 2 Al 0 k z z z z z z) fun a k=>s_stb (cs':=[Ac,Af]) sizeOf74 m 3 Aq 0 k z z z z z z z z z z (allc (rd_o (Enc.ow_rd Aa)) (allc (rd_o (Enc.ow_rd Ab)) alln)) fun Be a k e m Am=>nn (wp_ret ?_)))
 cases h
 exact finR1 k z (RV.cA k z ta74 (Am.at (m.a 3 z) 0 2 z z z) z) ⟨_,_,z,m.ext,⟨_,Ak,_,Aj,z,z,(Enc.ow_agr Aa (m.a 1 z)),(Enc.ow_agr Ab (m.a 0 z)),by simpa [fps] using (m.sel [1,0] z (by decide)).nd⟩,(app_fresh (m.fresh 1 z) (m.fresh 0 z))⟩
theorem c_laws_eqIntS (fu:Nat) {w0:World} (a1:List Int) (b5:List Int) {v2:Value} {F3:List Nat} (Aa:rd w0 F3 [v2] a1) {v6:Value} {F7:List Nat} (Ac:rd w0 F7 [v6] b5) {r:Bool}
    (h:d_laws_eqIntS fu a1 b5 = some r) :
    Calls Tryz.prog 54 #[v2,v6] w0 fun e w=>e = .returned (.bool (r)) ∧ Ext [] w0 w:=by
 refine enter (vs:=[_,_]) func54 z ntmps54 z fun a k=>?_
 have m:=St.start w0
 unfold d_laws_eqIntS at h
 refine wr (pN 1 k z fun a k=>nn (wp_seq (wr (pN 1 k z fun a k=>sv k z (r_len (α:=Int) Aa k underlying31 z z) fun a k=>pN 1 k z fun a k=>sv k z (r_len (α:=Int) Ac k underlying31 z z) fun a k=>pN 1 k z fun a k=>nn (cI h k z (fun Ah h=>?_) fun Ah h=>?_)))))
 · refine wr (pN 1 k z fun a k=>nn (wp_ret (rt_then ?_)))
   refine fS h k m z z
 refine wp_skip (nm_then ?_)
 refine wp_seq (wr (pN 1 k z fun a k=>nn (wp_block (c_loop (fun n a w=>∃ (Ab:Int),K 26 [(0,v2),(1,v6),(5,I Ab)] a ∧ St [] w0 w [] ∧ d_laws_eqIntS_L1 fu a1 b5 n Ab = some r) ?_ ?_ fu _ _ ?_))))
 · rintro a w ⟨_,_,_,h⟩
   exact nS h
 · rintro Ak a Aj ⟨Ab,k,m,h⟩
   rw [d_laws_eqIntS_L1_s] at h
   unfold d_laws_eqIntS_L1_B at h
   refine wp_seq (wr (pN 2 k z fun a k=>sv k z (r_len (α:=Int) Aa k underlying31 z z) fun a k=>pN 1 k z fun a k=>nn (cI h k z (fun Ag h=>?_) fun Ag h=>?_)))
   · refine wp_skip (nm_then ?_)
     refine wp_seq (wp_block (wp_seq (d_go [] mixo m z fun Ai hMd=>?_)))
     have m:=hMd
     have s:=Ext.refl ([]:List Nat) Ai
     refine dN [0,1,4,5] 4 z k (by kernel_rfl) z s (fun _ _ _ _ _=>id) fun a k=>oE h fun Al Ad h=>dt k 2 z (by kernel_rfl) z s (fun _ _ _=>id) (fun w s=>r_ixa Aa Ad k ts31 z z z) fun a k=>dt k 3 z (by kernel_rfl) z s (fun _ _ _=>id) (fun w s=>r_lde1 Aa ((hMd.step s).a00 (Enc.rd_lt Aa)) Ad 0 t13 k z z z z) fun a k=>oE h fun Am Ae h=>dt k 6 z (by kernel_rfl) z s (fun _ _ _=>id) (fun w s=>r_ixa Ac Ae k ts31 z z z) fun a k=>dt k 7 z (by kernel_rfl) z s (fun _ _ _=>id) (fun w s=>r_lde1 Ac ((hMd.step s).a00 (Enc.rd_lt Ac)) Ae 0 t13 k z z z z) fun a k=>dN [8] 1 z k (by kernel_rfl) z s (fun _ _ _ _ _=>id) fun a k=>d_done (by kernel_rfl) ((nm_then ?_))
     refine cI h k z (fun Af h=>?_) fun Af h=>?_
     · refine wr (pN 1 k z fun a k=>nn (wp_ret (rt_block (rt_then (rt_then (rt_block (rt_then ?_)))))))
       refine fS h k m z z
     refine wp_skip (nm_block (nm_then ?_))
     refine wp_region_lit (pN 3 k z fun a k=>nn ?_)
     exact ⟨w64 (Ab + 1),k.keep [0,1,5] z,m.sel [] z (by decide),h⟩
   refine wp_exit (ex_then (ex_then (ex_same (nm_then ?_))))
   refine wr (pN 1 k z fun a k=>nn (wp_ret (fS h k m z z)))
 exact ⟨0,k.keep [0,1,5] z,m.sel [] z (by decide),h⟩
theorem c_laws_eqCarton (fu:Nat) {w0:World} (a1:Carton) (b5:Carton) {Ae:List Value} {F3:List Nat} (Ak:rd w0 F3 Ae a1) {Ad:List Value} {F7:List Nat} (Ai:rd w0 F7 Ad b5) {r:Bool}
    (h:d_laws_eqCarton fu a1 b5 = some r) :
    Calls Tryz.prog 222 #[.agg Ae.toArray,.agg Ad.toArray] w0 fun e w=>e = .returned (.bool (r)) ∧ Ext [] w0 w:=by
 refine enter (vs:=[_,_]) func222 z ntmps222 z fun a k=>?_
 have m:=St.start w0
 obtain ⟨v9,_,rfl,rfl,Ac⟩:=Ak
 obtain ⟨Ag,_,rfl,rfl,Af⟩:=Ai
 unfold d_laws_eqCarton at h
 refine wr (s_box (cs:=[I a1.fType,I a1.fGroup,v9]) m k z z z z z z fun Ap As a k m e Aa=>s_box (cs:=[I b5.fType,I b5.fGroup,Ag]) m k z z z z z z fun Ar At a k m e Ab=>pN 1 k z fun a k=>nn (wp_seq (wr (sv k z (r_fa fa33_0 k z z) fun a k=>sv k z (r_ldb t13 m 1 Aa 0 k z z z z z) fun a k=>sv k z (r_fa fa33_0 k z z) fun a k=>sv k z (r_ldb t13 m 0 Ab 0 k z z z z z) fun a k=>pN 1 k z fun a k=>nn (cI h k z (fun Am h=>?_) fun Am h=>?_)))))
 · refine wr (pN 1 k z fun a k=>nn (wp_ret (rt_then ?_)))
   refine fS h k m z z
 refine wp_skip (nm_then ?_)
 refine wp_seq (wr (sv k z (r_fa fa33_1 k z z) fun a k=>sv k z (r_ldb t13 m 1 Aa 1 k z z z z z) fun a k=>sv k z (r_fa fa33_1 k z z) fun a k=>sv k z (r_ldb t13 m 0 Ab 1 k z z z z z) fun a k=>pN 1 k z fun a k=>nn (cI h k z (fun Al h=>?_) fun Al h=>?_)))
 · refine wr (pN 1 k z fun a k=>nn (wp_ret (rt_then ?_)))
   refine fS h k m z z
 refine wp_skip (nm_then ?_)
 refine wp_seq (wr (sv k z (r_fa fa33_2 k z z) fun a k=>sv k z (r_ldb t131 m 1 Aa 2 k z z z z z) fun a k=>sv k z (r_fa fa33_2 k z z) fun a k=>sv k z (r_ldb t131 m 0 Ab 2 k z z z z z) fun a k=>oE h fun Aq Ah h=>cE k m call54 z z z (c_laws_eqIntS fu _ _ (Enc.rd_agr Ac (m.a00 (Enc.rd_lt Ac))) (Enc.rd_agr Af (m.a00 (Enc.rd_lt Af))) Ah) fun Ao e a k m=>pN 1 k z fun a k=>nn (cI h k z (fun Aj h=>?_) fun Aj h=>?_)))
 · refine wr (pN 1 k z fun a k=>nn (wp_ret (rt_then ?_)))
   refine fS h k m z z
 refine wp_skip (nm_then ?_)
 refine wr (pN 1 k z fun a k=>nn (wp_ret (fS h k m z z)))
theorem c_laws_eqCartonS (fu:Nat) {w0:World} (a1:List Carton) (b5:List Carton) {v2:Value} {F3:List Nat} (Aa:rd w0 F3 [v2] a1) {v6:Value} {F7:List Nat} (Ab:rd w0 F7 [v6] b5) {r:Bool}
    (h:d_laws_eqCartonS fu a1 b5 = some r) :
    Calls Tryz.prog 130 #[v2,v6] w0 fun e w=>e = .returned (.bool (r)) ∧ Ext [] w0 w:=by
 refine enter (vs:=[_,_]) func130 z ntmps130 z fun a k=>?_
 have m:=St.start w0
 unfold d_laws_eqCartonS at h
 refine wr (pN 1 k z fun a k=>nn (wp_seq (wr (pN 1 k z fun a k=>sv k z (r_len (α:=Carton) Aa k underlying43 z z) fun a k=>pN 1 k z fun a k=>sv k z (r_len (α:=Carton) Ab k underlying43 z z) fun a k=>pN 1 k z fun a k=>nn (cI h k z (fun Au h=>?_) fun Au h=>?_)))))
 · refine wr (pN 1 k z fun a k=>nn (wp_ret (rt_then ?_)))
   refine fS h k m z z
 refine wp_skip (nm_then ?_)
 refine wp_seq (wr (pN 1 k z fun a k=>nn (wp_block (c_loop (fun n a w=>∃ (Ac:Int),K 27 [(0,v2),(1,v6),(5,I Ac)] a ∧ St [] w0 w [] ∧ d_laws_eqCartonS_L1 fu a1 b5 n Ac = some r) ?_ ?_ fu _ _ ?_))))
 · rintro a w ⟨_,_,_,h⟩
   exact nS h
 · rintro Ay a Be ⟨Ac,k,m,h⟩
   rw [d_laws_eqCartonS_L1_s] at h
   unfold d_laws_eqCartonS_L1_B at h
   refine wp_seq (wr (pN 2 k z fun a k=>sv k z (r_len (α:=Carton) Aa k underlying43 z z) fun a k=>pN 1 k z fun a k=>nn (cI h k z (fun As h=>?_) fun As h=>?_)))
   · refine wp_skip (nm_then ?_)
     refine wp_seq (wp_block (wp_seq (d_go [] mixo m z fun Aj hMd=>?_)))
     have m:=hMd
     have s:=Ext.refl ([]:List Nat) Aj
     refine dN [0,1,4,5] 4 z k (by kernel_rfl) z s (fun _ _ _ _ _=>id) fun a k=>oE h fun Ad Ai h=>dt k 2 z (by kernel_rfl) z s (fun _ _ _=>id) (fun w s=>r_ixa Aa Ai k ts43 z z z) fun a k=>?_
     obtain ⟨Bc,Bb,Ax,Ak,Ap,Aq⟩:=rd_get Aa (ix_some Ai).2.2
     obtain ⟨Ao,_,rfl,rfl,Af⟩:=Ak
     refine dt k 3 z (by kernel_rfl) z s (fun _ _ _=>id) (fun w s=>r_ldA ta33 (Ap.agr ((hMd.step s).a00 (Enc.rd_lt Aa)) Aq) z k z z) fun a k=>oE h fun Ae Ah h=>dt k 6 z (by kernel_rfl) z s (fun _ _ _=>id) (fun w s=>r_ixa Ab Ah k ts43 z z z) fun a k=>?_
     obtain ⟨Bf,Bd,Ba,Al,At,Am⟩:=rd_get Ab (ix_some Ah).2.2
     obtain ⟨Ar,_,rfl,rfl,Ag⟩:=Al
     refine dt k 7 z (by kernel_rfl) z s (fun _ _ _=>id) (fun w s=>r_ldA ta33 (At.agr ((hMd.step s).a00 (Enc.rd_lt Ab)) Am) z k z z) fun a k=>d_one 8 (by kernel_rfl) z (oE h fun Az Aw h=>cE k m call222 z z z (c_laws_eqCarton fu _ _ (show rd _ _ [I Ad.fType,I Ad.fGroup,Ao] (Ad:Carton) from ⟨_,_,z,z,(Enc.rd_agr Af (m.a00 (Enc.rd_lt Af)))⟩) (show rd _ _ [I Ae.fType,I Ae.fGroup,Ar] (Ae:Carton) from ⟨_,_,z,z,(Enc.rd_agr Ag (m.a00 (Enc.rd_lt Ag)))⟩) Aw) fun Bg e a k m=>?_)
     have s:=s.trans e (by simp)
     refine wpList_nil ⟨s,?_⟩
     refine dN [9] 1 z k (by kernel_rfl) z s (fun _ _ _ _ _=>id) fun a k=>d_done (by kernel_rfl) ((nm_then ?_))
     refine cI h k z (fun Av h=>?_) fun Av h=>?_
     · refine wr (pN 1 k z fun a k=>nn (wp_ret (rt_block (rt_then (rt_then (rt_block (rt_then ?_)))))))
       refine fS h k m z z
     refine wp_skip (nm_block (nm_then ?_))
     refine wp_region_lit (pN 3 k z fun a k=>nn ?_)
     exact ⟨w64 (Ac + 1),k.keep [0,1,5] z,m.sel [] z (by decide),h⟩
   refine wp_exit (ex_then (ex_then (ex_same (nm_then ?_))))
   refine wr (pN 1 k z fun a k=>nn (wp_ret (fS h k m z z)))
 exact ⟨0,k.keep [0,1,5] z,m.sel [] z (by decide),h⟩
theorem c_laws_eqSpot (fu:Nat) {w0:World} (a1:Spot) (b2:Spot)  {r:Bool}
    (h:d_laws_eqSpot fu a1 b2 = some r) :
    Calls Tryz.prog 223 #[.agg (Flat.e (a1)).toArray,.agg (Flat.e (b2)).toArray] w0 fun e w=>e = .returned (.bool (r)) ∧ Ext [] w0 w:=by
 refine enter (vs:=[_,_]) func223 z ntmps223 z fun a k=>?_
 have m:=St.start w0
 unfold d_laws_eqSpot at h
 refine wr (s_box (cs:=[I a1.fPallet,I a1.fX,I a1.fY,I a1.fZ]) m k z z z z z z fun b3 w5 a k m e Ab=>s_box (cs:=[I b2.fPallet,I b2.fX,I b2.fY,I b2.fZ]) m k z z z z z z fun b6 w9 a k m e Aa=>pN 1 k z fun a k=>nn (wp_seq (wr (sv k z (r_fa fa139_0 k z z) fun a k=>sv k z (r_ldb t13 m 1 Ab 0 k z z z z z) fun a k=>sv k z (r_fa fa139_0 k z z) fun a k=>sv k z (r_ldb t13 m 0 Aa 0 k z z z z z) fun a k=>pN 1 k z fun a k=>nn (cI h k z (fun Ac h=>?_) fun Ac h=>?_)))))
 · refine wr (pN 1 k z fun a k=>nn (wp_ret (rt_then ?_)))
   refine fS h k m z z
 refine wp_skip (nm_then ?_)
 refine wp_seq (wr (sv k z (r_fa fa139_1 k z z) fun a k=>sv k z (r_ldb t13 m 1 Ab 1 k z z z z z) fun a k=>sv k z (r_fa fa139_1 k z z) fun a k=>sv k z (r_ldb t13 m 0 Aa 1 k z z z z z) fun a k=>pN 1 k z fun a k=>nn (cI h k z (fun Af h=>?_) fun Af h=>?_)))
 · refine wr (pN 1 k z fun a k=>nn (wp_ret (rt_then ?_)))
   refine fS h k m z z
 refine wp_skip (nm_then ?_)
 refine wp_seq (wr (sv k z (r_fa fa139_2 k z z) fun a k=>sv k z (r_ldb t13 m 1 Ab 2 k z z z z z) fun a k=>sv k z (r_fa fa139_2 k z z) fun a k=>sv k z (r_ldb t13 m 0 Aa 2 k z z z z z) fun a k=>pN 1 k z fun a k=>nn (cI h k z (fun Ad h=>?_) fun Ad h=>?_)))
 · refine wr (pN 1 k z fun a k=>nn (wp_ret (rt_then ?_)))
   refine fS h k m z z
 refine wp_skip (nm_then ?_)
 refine wp_seq (wr (sv k z (r_fa fa139_3 k z z) fun a k=>sv k z (r_ldb t13 m 1 Ab 3 k z z z z z) fun a k=>sv k z (r_fa fa139_3 k z z) fun a k=>sv k z (r_ldb t13 m 0 Aa 3 k z z z z z) fun a k=>pN 1 k z fun a k=>nn (cI h k z (fun Ae h=>?_) fun Ae h=>?_)))
 · refine wr (pN 1 k z fun a k=>nn (wp_ret (rt_then ?_)))
   refine fS h k m z z
 refine wp_skip (nm_then ?_)
 refine wr (pN 1 k z fun a k=>nn (wp_ret (fS h k m z z)))
theorem c_laws_eqSpotS (fu:Nat) {w0:World} (a1:List Spot) (b5:List Spot) {v2:Value} {F3:List Nat} (Aa:rd w0 F3 [v2] a1) {v6:Value} {F7:List Nat} (Ac:rd w0 F7 [v6] b5) {r:Bool}
    (h:d_laws_eqSpotS fu a1 b5 = some r) :
    Calls Tryz.prog 131 #[v2,v6] w0 fun e w=>e = .returned (.bool (r)) ∧ Ext [] w0 w:=by
 refine enter (vs:=[_,_]) func131 z ntmps131 z fun a k=>?_
 have m:=St.start w0
 unfold d_laws_eqSpotS at h
 refine wr (pN 1 k z fun a k=>nn (wp_seq (wr (pN 1 k z fun a k=>sv k z (r_len (α:=Spot) Aa k underlying72 z z) fun a k=>pN 1 k z fun a k=>sv k z (r_len (α:=Spot) Ac k underlying72 z z) fun a k=>pN 1 k z fun a k=>nn (cI h k z (fun Ag h=>?_) fun Ag h=>?_)))))
 · refine wr (pN 1 k z fun a k=>nn (wp_ret (rt_then ?_)))
   refine fS h k m z z
 refine wp_skip (nm_then ?_)
 refine wp_seq (wr (pN 1 k z fun a k=>nn (wp_block (c_loop (fun n a w=>∃ (Ab:Int),K 27 [(0,v2),(1,v6),(5,I Ab)] a ∧ St [] w0 w [] ∧ d_laws_eqSpotS_L1 fu a1 b5 n Ab = some r) ?_ ?_ fu _ _ ?_))))
 · rintro a w ⟨_,_,_,h⟩
   exact nS h
 · rintro Aq a Am ⟨Ab,k,m,h⟩
   rw [d_laws_eqSpotS_L1_s] at h
   unfold d_laws_eqSpotS_L1_B at h
   refine wp_seq (wr (pN 2 k z fun a k=>sv k z (r_len (α:=Spot) Aa k underlying72 z z) fun a k=>pN 1 k z fun a k=>nn (cI h k z (fun Ak h=>?_) fun Ak h=>?_)))
   · refine wp_skip (nm_then ?_)
     refine wp_seq (wp_block (wp_seq (d_go [] mixo m z fun Al hMd=>?_)))
     have m:=hMd
     have s:=Ext.refl ([]:List Nat) Al
     refine dN [0,1,4,5] 4 z k (by kernel_rfl) z s (fun _ _ _ _ _=>id) fun a k=>oE h fun Aj Ad h=>dt k 2 z (by kernel_rfl) z s (fun _ _ _=>id) (fun w s=>r_ixa Aa Ad k ts72 z z z) fun a k=>dt k 3 z (by kernel_rfl) z s (fun _ _ _=>id) (fun w s=>r_lde Aa ((hMd.step s).a00 (Enc.rd_lt Aa)) Ad ta139 k z z) fun a k=>oE h fun Ah Ae h=>dt k 6 z (by kernel_rfl) z s (fun _ _ _=>id) (fun w s=>r_ixa Ac Ae k ts72 z z z) fun a k=>dt k 7 z (by kernel_rfl) z s (fun _ _ _=>id) (fun w s=>r_lde Ac ((hMd.step s).a00 (Enc.rd_lt Ac)) Ae ta139 k z z) fun a k=>d_one 8 (by kernel_rfl) z (oE h fun Ap Ai h=>cE k m call223 z z z (c_laws_eqSpot fu (Aj:Spot) (Ah:Spot)  Ai) fun Ao e a k m=>?_)
     have s:=s.trans e (by simp)
     refine wpList_nil ⟨s,?_⟩
     refine dN [9] 1 z k (by kernel_rfl) z s (fun _ _ _ _ _=>id) fun a k=>d_done (by kernel_rfl) ((nm_then ?_))
     refine cI h k z (fun Af h=>?_) fun Af h=>?_
     · refine wr (pN 1 k z fun a k=>nn (wp_ret (rt_block (rt_then (rt_then (rt_block (rt_then ?_)))))))
       refine fS h k m z z
     refine wp_skip (nm_block (nm_then ?_))
     refine wp_region_lit (pN 3 k z fun a k=>nn ?_)
     exact ⟨w64 (Ab + 1),k.keep [0,1,5] z,m.sel [] z (by decide),h⟩
   refine wp_exit (ex_then (ex_then (ex_same (nm_then ?_))))
   refine wr (pN 1 k z fun a k=>nn (wp_ret (fS h k m z z)))
 exact ⟨0,k.keep [0,1,5] z,m.sel [] z (by decide),h⟩
theorem c_laws_eqPlan (fu:Nat) {w0:World} (a1:Plan) (b5:Plan) {Ab:List Value} {F3:List Nat} (Aq:rd w0 F3 Ab a1) {Aa:List Value} {F7:List Nat} (Ap:rd w0 F7 Aa b5) {r:Bool}
    (h:d_laws_eqPlan fu a1 b5 = some r) :
    Calls Tryz.prog 42 #[.agg Ab.toArray,.agg Aa.toArray] w0 fun e w=>e = .returned (.bool (r)) ∧ Ext [] w0 w:=by
 refine enter (vs:=[_,_]) func42 z ntmps42 z fun a k=>?_
 have m:=St.start w0
 obtain ⟨v9,Ba,Aj,Au,rfl,rfl,Ah,Ae⟩:=Aq
 obtain ⟨Ar,Av,Ak,At,rfl,rfl,Ac,Ad⟩:=Ap
 unfold d_laws_eqPlan at h
 refine wr (s_box (cs:=[v9,Aj]) m k z z z z z z fun As Ax a k m e Af=>s_box (cs:=[Ar,Ak]) m k z z z z z z fun Bb Bd a k m e Ag=>pN 1 k z fun a k=>nn (wp_seq (wr (sv k z (r_fa fa74_0 k z z) fun a k=>sv k z (r_ldb t143 m 1 Af 0 k z z z z z) fun a k=>sv k z (r_fa fa74_0 k z z) fun a k=>sv k z (r_ldb t143 m 0 Ag 0 k z z z z z) fun a k=>oE h fun Az Al h=>cE k m call130 z z z (c_laws_eqCartonS fu _ _ (Enc.rd_agr Ah (m.a00 (Enc.rd_lt Ah))) (Enc.rd_agr Ac (m.a00 (Enc.rd_lt Ac))) Al) fun Aw e a k m=>pN 1 k z fun a k=>nn (cI h k z (fun Am h=>?_) fun Am h=>?_)))))
 · refine wr (pN 1 k z fun a k=>nn (wp_ret (rt_then ?_)))
   refine fS h k m z z
 refine wp_skip (nm_then ?_)
 refine wp_seq (wr (sv k z (r_fa fa74_1 k z z) fun a k=>sv k z (r_ldb t172 m 1 Af 1 k z z z z z) fun a k=>sv k z (r_fa fa74_1 k z z) fun a k=>sv k z (r_ldb t172 m 0 Ag 1 k z z z z z) fun a k=>oE h fun Ay Ai h=>cE k m call131 z z z (c_laws_eqSpotS fu _ _ (Enc.rd_agr Ae (m.a00 (Enc.rd_lt Ae))) (Enc.rd_agr Ad (m.a00 (Enc.rd_lt Ad))) Ai) fun Bc e a k m=>pN 1 k z fun a k=>nn (cI h k z (fun Ao h=>?_) fun Ao h=>?_)))
 · refine wr (pN 1 k z fun a k=>nn (wp_ret (rt_then ?_)))
   refine fS h k m z z
 refine wp_skip (nm_then ?_)
 refine wr (pN 1 k z fun a k=>nn (wp_ret (fS h k m z z)))
theorem c_laws_eqPallet (fu:Nat) {w0:World} (a1:Pallet) (b2:Pallet)  {r:Bool}
    (h:d_laws_eqPallet fu a1 b2 = some r) :
    Calls Tryz.prog 96 #[.agg (Flat.e (a1)).toArray,.agg (Flat.e (b2)).toArray] w0 fun e w=>e = .returned (.bool (r)) ∧ Ext [] w0 w:=by
 refine enter (vs:=[_,_]) func96 z ntmps96 z fun a k=>?_
 have m:=St.start w0
 unfold d_laws_eqPallet at h
 refine wr (s_box (cs:=[I a1.fW,I a1.fD,I a1.fH,I a1.fGram]) m k z z z z z z fun b3 w5 a k m e Ab=>s_box (cs:=[I b2.fW,I b2.fD,I b2.fH,I b2.fGram]) m k z z z z z z fun b6 w9 a k m e Aa=>pN 1 k z fun a k=>nn (wp_seq (wr (sv k z (r_fa fa25_0 k z z) fun a k=>sv k z (r_ldb t13 m 1 Ab 0 k z z z z z) fun a k=>sv k z (r_fa fa25_0 k z z) fun a k=>sv k z (r_ldb t13 m 0 Aa 0 k z z z z z) fun a k=>pN 1 k z fun a k=>nn (cI h k z (fun Ac h=>?_) fun Ac h=>?_)))))
 · refine wr (pN 1 k z fun a k=>nn (wp_ret (rt_then ?_)))
   refine fS h k m z z
 refine wp_skip (nm_then ?_)
 refine wp_seq (wr (sv k z (r_fa fa25_1 k z z) fun a k=>sv k z (r_ldb t13 m 1 Ab 1 k z z z z z) fun a k=>sv k z (r_fa fa25_1 k z z) fun a k=>sv k z (r_ldb t13 m 0 Aa 1 k z z z z z) fun a k=>pN 1 k z fun a k=>nn (cI h k z (fun Af h=>?_) fun Af h=>?_)))
 · refine wr (pN 1 k z fun a k=>nn (wp_ret (rt_then ?_)))
   refine fS h k m z z
 refine wp_skip (nm_then ?_)
 refine wp_seq (wr (sv k z (r_fa fa25_2 k z z) fun a k=>sv k z (r_ldb t13 m 1 Ab 2 k z z z z z) fun a k=>sv k z (r_fa fa25_2 k z z) fun a k=>sv k z (r_ldb t13 m 0 Aa 2 k z z z z z) fun a k=>pN 1 k z fun a k=>nn (cI h k z (fun Ad h=>?_) fun Ad h=>?_)))
 · refine wr (pN 1 k z fun a k=>nn (wp_ret (rt_then ?_)))
   refine fS h k m z z
 refine wp_skip (nm_then ?_)
 refine wp_seq (wr (sv k z (r_fa fa25_3 k z z) fun a k=>sv k z (r_ldb t13 m 1 Ab 3 k z z z z z) fun a k=>sv k z (r_fa fa25_3 k z z) fun a k=>sv k z (r_ldb t13 m 0 Aa 3 k z z z z z) fun a k=>pN 1 k z fun a k=>nn (cI h k z (fun Ae h=>?_) fun Ae h=>?_)))
 · refine wr (pN 1 k z fun a k=>nn (wp_ret (rt_then ?_)))
   refine fS h k m z z
 refine wp_skip (nm_then ?_)
 refine wr (pN 1 k z fun a k=>nn (wp_ret (fS h k m z z)))
theorem c_laws_eqPair (fu:Nat) {w0:World} (a1:Pair) (b2:Pair)  {r:Bool}
    (h:d_laws_eqPair fu a1 b2 = some r) :
    Calls Tryz.prog 187 #[.agg (Flat.e (a1)).toArray,.agg (Flat.e (b2)).toArray] w0 fun e w=>e = .returned (.bool (r)) ∧ Ext [] w0 w:=by
 refine enter (vs:=[_,_]) func187 z ntmps187 z fun a k=>?_
 have m:=St.start w0
 unfold d_laws_eqPair at h
 refine wr (s_box (cs:=[I a1.fA,I a1.fB]) m k z z z z z z fun b3 w5 a k m e Ab=>s_box (cs:=[I b2.fA,I b2.fB]) m k z z z z z z fun b6 w9 a k m e Aa=>pN 1 k z fun a k=>nn (wp_seq (wr (sv k z (r_fa fa158_0 k z z) fun a k=>sv k z (r_ldb t13 m 1 Ab 0 k z z z z z) fun a k=>sv k z (r_fa fa158_0 k z z) fun a k=>sv k z (r_ldb t13 m 0 Aa 0 k z z z z z) fun a k=>pN 1 k z fun a k=>nn (cI h k z (fun Ac h=>?_) fun Ac h=>?_)))))
 · refine wr (pN 1 k z fun a k=>nn (wp_ret (rt_then ?_)))
   refine fS h k m z z
 refine wp_skip (nm_then ?_)
 refine wp_seq (wr (sv k z (r_fa fa158_1 k z z) fun a k=>sv k z (r_ldb t13 m 1 Ab 1 k z z z z z) fun a k=>sv k z (r_fa fa158_1 k z z) fun a k=>sv k z (r_ldb t13 m 0 Aa 1 k z z z z z) fun a k=>pN 1 k z fun a k=>nn (cI h k z (fun Ad h=>?_) fun Ad h=>?_)))
 · refine wr (pN 1 k z fun a k=>nn (wp_ret (rt_then ?_)))
   refine fS h k m z z
 refine wp_skip (nm_then ?_)
 refine wr (pN 1 k z fun a k=>nn (wp_ret (fS h k m z z)))
theorem c_laws_eqPairS (fu:Nat) {w0:World} (a1:List Pair) (b5:List Pair) {v2:Value} {F3:List Nat} (Aa:rd w0 F3 [v2] a1) {v6:Value} {F7:List Nat} (Ac:rd w0 F7 [v6] b5) {r:Bool}
    (h:d_laws_eqPairS fu a1 b5 = some r) :
    Calls Tryz.prog 97 #[v2,v6] w0 fun e w=>e = .returned (.bool (r)) ∧ Ext [] w0 w:=by
 refine enter (vs:=[_,_]) func97 z ntmps97 z fun a k=>?_
 have m:=St.start w0
 unfold d_laws_eqPairS at h
 refine wr (pN 1 k z fun a k=>nn (wp_seq (wr (pN 1 k z fun a k=>sv k z (r_len (α:=Pair) Aa k underlying26 z z) fun a k=>pN 1 k z fun a k=>sv k z (r_len (α:=Pair) Ac k underlying26 z z) fun a k=>pN 1 k z fun a k=>nn (cI h k z (fun Ag h=>?_) fun Ag h=>?_)))))
 · refine wr (pN 1 k z fun a k=>nn (wp_ret (rt_then ?_)))
   refine fS h k m z z
 refine wp_skip (nm_then ?_)
 refine wp_seq (wr (pN 1 k z fun a k=>nn (wp_block (c_loop (fun n a w=>∃ (Ab:Int),K 27 [(0,v2),(1,v6),(5,I Ab)] a ∧ St [] w0 w [] ∧ d_laws_eqPairS_L1 fu a1 b5 n Ab = some r) ?_ ?_ fu _ _ ?_))))
 · rintro a w ⟨_,_,_,h⟩
   exact nS h
 · rintro Aq a Am ⟨Ab,k,m,h⟩
   rw [d_laws_eqPairS_L1_s] at h
   unfold d_laws_eqPairS_L1_B at h
   refine wp_seq (wr (pN 2 k z fun a k=>sv k z (r_len (α:=Pair) Aa k underlying26 z z) fun a k=>pN 1 k z fun a k=>nn (cI h k z (fun Ak h=>?_) fun Ak h=>?_)))
   · refine wp_skip (nm_then ?_)
     refine wp_seq (wp_block (wp_seq (d_go [] mixo m z fun Al hMd=>?_)))
     have m:=hMd
     have s:=Ext.refl ([]:List Nat) Al
     refine dN [0,1,4,5] 4 z k (by kernel_rfl) z s (fun _ _ _ _ _=>id) fun a k=>oE h fun Aj Ad h=>dt k 2 z (by kernel_rfl) z s (fun _ _ _=>id) (fun w s=>r_ixa Aa Ad k ts26 z z z) fun a k=>dt k 3 z (by kernel_rfl) z s (fun _ _ _=>id) (fun w s=>r_lde Aa ((hMd.step s).a00 (Enc.rd_lt Aa)) Ad ta158 k z z) fun a k=>oE h fun Ah Ae h=>dt k 6 z (by kernel_rfl) z s (fun _ _ _=>id) (fun w s=>r_ixa Ac Ae k ts26 z z z) fun a k=>dt k 7 z (by kernel_rfl) z s (fun _ _ _=>id) (fun w s=>r_lde Ac ((hMd.step s).a00 (Enc.rd_lt Ac)) Ae ta158 k z z) fun a k=>d_one 8 (by kernel_rfl) z (oE h fun Ap Ai h=>cE k m call187 z z z (c_laws_eqPair fu (Aj:Pair) (Ah:Pair)  Ai) fun Ao e a k m=>?_)
     have s:=s.trans e (by simp)
     refine wpList_nil ⟨s,?_⟩
     refine dN [9] 1 z k (by kernel_rfl) z s (fun _ _ _ _ _=>id) fun a k=>d_done (by kernel_rfl) ((nm_then ?_))
     refine cI h k z (fun Af h=>?_) fun Af h=>?_
     · refine wr (pN 1 k z fun a k=>nn (wp_ret (rt_block (rt_then (rt_then (rt_block (rt_then ?_)))))))
       refine fS h k m z z
     refine wp_skip (nm_block (nm_then ?_))
     refine wp_region_lit (pN 3 k z fun a k=>nn ?_)
     exact ⟨w64 (Ab + 1),k.keep [0,1,5] z,m.sel [] z (by decide),h⟩
   refine wp_exit (ex_then (ex_then (ex_same (nm_then ?_))))
   refine wr (pN 1 k z fun a k=>nn (wp_ret (fS h k m z z)))
 exact ⟨0,k.keep [0,1,5] z,m.sel [] z (by decide),h⟩
theorem c_laws_eqType (fu:Nat) {w0:World} (a1:Typ) (b2:Typ)  {r:Bool}
    (h:d_laws_eqType fu a1 b2 = some r) :
    Calls Tryz.prog 188 #[.agg (Flat.e (a1)).toArray,.agg (Flat.e (b2)).toArray] w0 fun e w=>e = .returned (.bool (r)) ∧ Ext [] w0 w:=by
 refine enter (vs:=[_,_]) func188 z ntmps188 z fun a k=>?_
 have m:=St.start w0
 unfold d_laws_eqType at h
 refine wr (s_box (cs:=[I a1.fId,I a1.fW,I a1.fH,I a1.fD,I a1.fTare,I a1.fGram,I a1.fCost]) m k z z z z z z fun b3 w5 a k m e Ab=>s_box (cs:=[I b2.fId,I b2.fW,I b2.fH,I b2.fD,I b2.fTare,I b2.fGram,I b2.fCost]) m k z z z z z z fun b6 w9 a k m e Aa=>pN 1 k z fun a k=>nn (wp_seq (wr (sv k z (r_fa fa38_0 k z z) fun a k=>sv k z (r_ldb t13 m 1 Ab 0 k z z z z z) fun a k=>sv k z (r_fa fa38_0 k z z) fun a k=>sv k z (r_ldb t13 m 0 Aa 0 k z z z z z) fun a k=>pN 1 k z fun a k=>nn (cI h k z (fun Ac h=>?_) fun Ac h=>?_)))))
 · refine wr (pN 1 k z fun a k=>nn (wp_ret (rt_then ?_)))
   refine fS h k m z z
 refine wp_skip (nm_then ?_)
 refine wp_seq (wr (sv k z (r_fa fa38_1 k z z) fun a k=>sv k z (r_ldb t13 m 1 Ab 1 k z z z z z) fun a k=>sv k z (r_fa fa38_1 k z z) fun a k=>sv k z (r_ldb t13 m 0 Aa 1 k z z z z z) fun a k=>pN 1 k z fun a k=>nn (cI h k z (fun Ai h=>?_) fun Ai h=>?_)))
 · refine wr (pN 1 k z fun a k=>nn (wp_ret (rt_then ?_)))
   refine fS h k m z z
 refine wp_skip (nm_then ?_)
 refine wp_seq (wr (sv k z (r_fa fa38_2 k z z) fun a k=>sv k z (r_ldb t13 m 1 Ab 2 k z z z z z) fun a k=>sv k z (r_fa fa38_2 k z z) fun a k=>sv k z (r_ldb t13 m 0 Aa 2 k z z z z z) fun a k=>pN 1 k z fun a k=>nn (cI h k z (fun Ad h=>?_) fun Ad h=>?_)))
 · refine wr (pN 1 k z fun a k=>nn (wp_ret (rt_then ?_)))
   refine fS h k m z z
 refine wp_skip (nm_then ?_)
 refine wp_seq (wr (sv k z (r_fa fa38_3 k z z) fun a k=>sv k z (r_ldb t13 m 1 Ab 3 k z z z z z) fun a k=>sv k z (r_fa fa38_3 k z z) fun a k=>sv k z (r_ldb t13 m 0 Aa 3 k z z z z z) fun a k=>pN 1 k z fun a k=>nn (cI h k z (fun Ae h=>?_) fun Ae h=>?_)))
 · refine wr (pN 1 k z fun a k=>nn (wp_ret (rt_then ?_)))
   refine fS h k m z z
 refine wp_skip (nm_then ?_)
 refine wp_seq (wr (sv k z (r_fa fa38_4 k z z) fun a k=>sv k z (r_ldb t13 m 1 Ab 4 k z z z z z) fun a k=>sv k z (r_fa fa38_4 k z z) fun a k=>sv k z (r_ldb t13 m 0 Aa 4 k z z z z z) fun a k=>pN 1 k z fun a k=>?_))
 have k:=k.keep [2,3,29] z
 refine nn (cI h k z (fun Af h=>?_) fun Af h=>?_)
 · refine wr (pN 1 k z fun a k=>nn (wp_ret (rt_then ?_)))
   refine fS h k m z z
 refine wp_skip (nm_then ?_)
 refine wp_seq (wr (sv k z (r_fa fa38_5 k z z) fun a k=>sv k z (r_ldb t13 m 1 Ab 5 k z z z z z) fun a k=>sv k z (r_fa fa38_5 k z z) fun a k=>sv k z (r_ldb t13 m 0 Aa 5 k z z z z z) fun a k=>pN 1 k z fun a k=>nn (cI h k z (fun Ah h=>?_) fun Ah h=>?_)))
 · refine wr (pN 1 k z fun a k=>nn (wp_ret (rt_then ?_)))
   refine fS h k m z z
 refine wp_skip (nm_then ?_)
 refine wp_seq (wr (sv k z (r_fa fa38_6 k z z) fun a k=>sv k z (r_ldb t13 m 1 Ab 6 k z z z z z) fun a k=>sv k z (r_fa fa38_6 k z z) fun a k=>sv k z (r_ldb t13 m 0 Aa 6 k z z z z z) fun a k=>pN 1 k z fun a k=>nn (cI h k z (fun Ag h=>?_) fun Ag h=>?_)))
 · refine wr (pN 1 k z fun a k=>nn (wp_ret (rt_then ?_)))
   refine fS h k m z z
 refine wp_skip (nm_then ?_)
 refine wr (pN 1 k z fun a k=>nn (wp_ret (fS h k m z z)))
theorem c_laws_eqTypeS (fu:Nat) {w0:World} (a1:List Typ) (b5:List Typ) {v2:Value} {F3:List Nat} (Aa:rd w0 F3 [v2] a1) {v6:Value} {F7:List Nat} (Ac:rd w0 F7 [v6] b5) {r:Bool}
    (h:d_laws_eqTypeS fu a1 b5 = some r) :
    Calls Tryz.prog 98 #[v2,v6] w0 fun e w=>e = .returned (.bool (r)) ∧ Ext [] w0 w:=by
 refine enter (vs:=[_,_]) func98 z ntmps98 z fun a k=>?_
 have m:=St.start w0
 unfold d_laws_eqTypeS at h
 refine wr (pN 1 k z fun a k=>nn (wp_seq (wr (pN 1 k z fun a k=>sv k z (r_len (α:=Typ) Aa k underlying27 z z) fun a k=>pN 1 k z fun a k=>sv k z (r_len (α:=Typ) Ac k underlying27 z z) fun a k=>pN 1 k z fun a k=>nn (cI h k z (fun Ag h=>?_) fun Ag h=>?_)))))
 · refine wr (pN 1 k z fun a k=>nn (wp_ret (rt_then ?_)))
   refine fS h k m z z
 refine wp_skip (nm_then ?_)
 refine wp_seq (wr (pN 1 k z fun a k=>nn (wp_block (c_loop (fun n a w=>∃ (Ab:Int),K 27 [(0,v2),(1,v6),(5,I Ab)] a ∧ St [] w0 w [] ∧ d_laws_eqTypeS_L1 fu a1 b5 n Ab = some r) ?_ ?_ fu _ _ ?_))))
 · rintro a w ⟨_,_,_,h⟩
   exact nS h
 · rintro Aq a Am ⟨Ab,k,m,h⟩
   rw [d_laws_eqTypeS_L1_s] at h
   unfold d_laws_eqTypeS_L1_B at h
   refine wp_seq (wr (pN 2 k z fun a k=>sv k z (r_len (α:=Typ) Aa k underlying27 z z) fun a k=>pN 1 k z fun a k=>nn (cI h k z (fun Ak h=>?_) fun Ak h=>?_)))
   · refine wp_skip (nm_then ?_)
     refine wp_seq (wp_block (wp_seq (d_go [] mixo m z fun Al hMd=>?_)))
     have m:=hMd
     have s:=Ext.refl ([]:List Nat) Al
     refine dN [0,1,4,5] 4 z k (by kernel_rfl) z s (fun _ _ _ _ _=>id) fun a k=>oE h fun Aj Ad h=>dt k 2 z (by kernel_rfl) z s (fun _ _ _=>id) (fun w s=>r_ixa Aa Ad k ts27 z z z) fun a k=>dt k 3 z (by kernel_rfl) z s (fun _ _ _=>id) (fun w s=>r_lde Aa ((hMd.step s).a00 (Enc.rd_lt Aa)) Ad ta38 k z z) fun a k=>oE h fun Ah Ae h=>dt k 6 z (by kernel_rfl) z s (fun _ _ _=>id) (fun w s=>r_ixa Ac Ae k ts27 z z z) fun a k=>dt k 7 z (by kernel_rfl) z s (fun _ _ _=>id) (fun w s=>r_lde Ac ((hMd.step s).a00 (Enc.rd_lt Ac)) Ae ta38 k z z) fun a k=>d_one 8 (by kernel_rfl) z (oE h fun Ap Ai h=>cE k m call188 z z z (c_laws_eqType fu (Aj:Typ) (Ah:Typ)  Ai) fun Ao e a k m=>?_)
     have s:=s.trans e (by simp)
     refine wpList_nil ⟨s,?_⟩
     refine dN [9] 1 z k (by kernel_rfl) z s (fun _ _ _ _ _=>id) fun a k=>d_done (by kernel_rfl) ((nm_then ?_))
     refine cI h k z (fun Af h=>?_) fun Af h=>?_
     · refine wr (pN 1 k z fun a k=>nn (wp_ret (rt_block (rt_then (rt_then (rt_block (rt_then ?_)))))))
       refine fS h k m z z
     refine wp_skip (nm_block (nm_then ?_))
     refine wp_region_lit (pN 3 k z fun a k=>nn ?_)
     exact ⟨w64 (Ab + 1),k.keep [0,1,5] z,m.sel [] z (by decide),h⟩
   refine wp_exit (ex_then (ex_then (ex_same (nm_then ?_))))
   refine wr (pN 1 k z fun a k=>nn (wp_ret (fS h k m z z)))
 exact ⟨0,k.keep [0,1,5] z,m.sel [] z (by decide),h⟩
theorem c_laws_eqItem (fu:Nat) {w0:World} (a1:Item) (b2:Item)  {r:Bool}
    (h:d_laws_eqItem fu a1 b2 = some r) :
    Calls Tryz.prog 189 #[.agg (Flat.e (a1)).toArray,.agg (Flat.e (b2)).toArray] w0 fun e w=>e = .returned (.bool (r)) ∧ Ext [] w0 w:=by
 refine enter (vs:=[_,_]) func189 z ntmps189 z fun a k=>?_
 have m:=St.start w0
 unfold d_laws_eqItem at h
 refine wr (s_box (cs:=[I a1.fId,I a1.fW,I a1.fH,I a1.fD,I a1.fGram,I a1.fClass,I a1.fCount]) m k z z z z z z fun b3 w5 a k m e Ab=>s_box (cs:=[I b2.fId,I b2.fW,I b2.fH,I b2.fD,I b2.fGram,I b2.fClass,I b2.fCount]) m k z z z z z z fun b6 w9 a k m e Aa=>pN 1 k z fun a k=>nn (wp_seq (wr (sv k z (r_fa fa97_0 k z z) fun a k=>sv k z (r_ldb t13 m 1 Ab 0 k z z z z z) fun a k=>sv k z (r_fa fa97_0 k z z) fun a k=>sv k z (r_ldb t13 m 0 Aa 0 k z z z z z) fun a k=>pN 1 k z fun a k=>nn (cI h k z (fun Ac h=>?_) fun Ac h=>?_)))))
 · refine wr (pN 1 k z fun a k=>nn (wp_ret (rt_then ?_)))
   refine fS h k m z z
 refine wp_skip (nm_then ?_)
 refine wp_seq (wr (sv k z (r_fa fa97_1 k z z) fun a k=>sv k z (r_ldb t13 m 1 Ab 1 k z z z z z) fun a k=>sv k z (r_fa fa97_1 k z z) fun a k=>sv k z (r_ldb t13 m 0 Aa 1 k z z z z z) fun a k=>pN 1 k z fun a k=>nn (cI h k z (fun Ai h=>?_) fun Ai h=>?_)))
 · refine wr (pN 1 k z fun a k=>nn (wp_ret (rt_then ?_)))
   refine fS h k m z z
 refine wp_skip (nm_then ?_)
 refine wp_seq (wr (sv k z (r_fa fa97_2 k z z) fun a k=>sv k z (r_ldb t13 m 1 Ab 2 k z z z z z) fun a k=>sv k z (r_fa fa97_2 k z z) fun a k=>sv k z (r_ldb t13 m 0 Aa 2 k z z z z z) fun a k=>pN 1 k z fun a k=>nn (cI h k z (fun Ad h=>?_) fun Ad h=>?_)))
 · refine wr (pN 1 k z fun a k=>nn (wp_ret (rt_then ?_)))
   refine fS h k m z z
 refine wp_skip (nm_then ?_)
 refine wp_seq (wr (sv k z (r_fa fa97_3 k z z) fun a k=>sv k z (r_ldb t13 m 1 Ab 3 k z z z z z) fun a k=>sv k z (r_fa fa97_3 k z z) fun a k=>sv k z (r_ldb t13 m 0 Aa 3 k z z z z z) fun a k=>pN 1 k z fun a k=>nn (cI h k z (fun Ae h=>?_) fun Ae h=>?_)))
 · refine wr (pN 1 k z fun a k=>nn (wp_ret (rt_then ?_)))
   refine fS h k m z z
 refine wp_skip (nm_then ?_)
 refine wp_seq (wr (sv k z (r_fa fa97_4 k z z) fun a k=>sv k z (r_ldb t13 m 1 Ab 4 k z z z z z) fun a k=>sv k z (r_fa fa97_4 k z z) fun a k=>sv k z (r_ldb t13 m 0 Aa 4 k z z z z z) fun a k=>pN 1 k z fun a k=>?_))
 have k:=k.keep [2,3,29] z
 refine nn (cI h k z (fun Af h=>?_) fun Af h=>?_)
 · refine wr (pN 1 k z fun a k=>nn (wp_ret (rt_then ?_)))
   refine fS h k m z z
 refine wp_skip (nm_then ?_)
 refine wp_seq (wr (sv k z (r_fa fa97_5 k z z) fun a k=>sv k z (r_ldb t13 m 1 Ab 5 k z z z z z) fun a k=>sv k z (r_fa fa97_5 k z z) fun a k=>sv k z (r_ldb t13 m 0 Aa 5 k z z z z z) fun a k=>pN 1 k z fun a k=>nn (cI h k z (fun Ah h=>?_) fun Ah h=>?_)))
 · refine wr (pN 1 k z fun a k=>nn (wp_ret (rt_then ?_)))
   refine fS h k m z z
 refine wp_skip (nm_then ?_)
 refine wp_seq (wr (sv k z (r_fa fa97_6 k z z) fun a k=>sv k z (r_ldb t13 m 1 Ab 6 k z z z z z) fun a k=>sv k z (r_fa fa97_6 k z z) fun a k=>sv k z (r_ldb t13 m 0 Aa 6 k z z z z z) fun a k=>pN 1 k z fun a k=>nn (cI h k z (fun Ag h=>?_) fun Ag h=>?_)))
 · refine wr (pN 1 k z fun a k=>nn (wp_ret (rt_then ?_)))
   refine fS h k m z z
 refine wp_skip (nm_then ?_)
 refine wr (pN 1 k z fun a k=>nn (wp_ret (fS h k m z z)))
theorem c_laws_eqItemS (fu:Nat) {w0:World} (a1:List Item) (b5:List Item) {v2:Value} {F3:List Nat} (Aa:rd w0 F3 [v2] a1) {v6:Value} {F7:List Nat} (Ac:rd w0 F7 [v6] b5) {r:Bool}
    (h:d_laws_eqItemS fu a1 b5 = some r) :
    Calls Tryz.prog 99 #[v2,v6] w0 fun e w=>e = .returned (.bool (r)) ∧ Ext [] w0 w:=by
 refine enter (vs:=[_,_]) func99 z ntmps99 z fun a k=>?_
 have m:=St.start w0
 unfold d_laws_eqItemS at h
 refine wr (pN 1 k z fun a k=>nn (wp_seq (wr (pN 1 k z fun a k=>sv k z (r_len (α:=Item) Aa k underlying28 z z) fun a k=>pN 1 k z fun a k=>sv k z (r_len (α:=Item) Ac k underlying28 z z) fun a k=>pN 1 k z fun a k=>nn (cI h k z (fun Ag h=>?_) fun Ag h=>?_)))))
 · refine wr (pN 1 k z fun a k=>nn (wp_ret (rt_then ?_)))
   refine fS h k m z z
 refine wp_skip (nm_then ?_)
 refine wp_seq (wr (pN 1 k z fun a k=>nn (wp_block (c_loop (fun n a w=>∃ (Ab:Int),K 27 [(0,v2),(1,v6),(5,I Ab)] a ∧ St [] w0 w [] ∧ d_laws_eqItemS_L1 fu a1 b5 n Ab = some r) ?_ ?_ fu _ _ ?_))))
 · rintro a w ⟨_,_,_,h⟩
   exact nS h
 · rintro Aq a Am ⟨Ab,k,m,h⟩
   rw [d_laws_eqItemS_L1_s] at h
   unfold d_laws_eqItemS_L1_B at h
   refine wp_seq (wr (pN 2 k z fun a k=>sv k z (r_len (α:=Item) Aa k underlying28 z z) fun a k=>pN 1 k z fun a k=>nn (cI h k z (fun Ak h=>?_) fun Ak h=>?_)))
   · refine wp_skip (nm_then ?_)
     refine wp_seq (wp_block (wp_seq (d_go [] mixo m z fun Al hMd=>?_)))
     have m:=hMd
     have s:=Ext.refl ([]:List Nat) Al
     refine dN [0,1,4,5] 4 z k (by kernel_rfl) z s (fun _ _ _ _ _=>id) fun a k=>oE h fun Aj Ad h=>dt k 2 z (by kernel_rfl) z s (fun _ _ _=>id) (fun w s=>r_ixa Aa Ad k ts28 z z z) fun a k=>dt k 3 z (by kernel_rfl) z s (fun _ _ _=>id) (fun w s=>r_lde Aa ((hMd.step s).a00 (Enc.rd_lt Aa)) Ad ta97 k z z) fun a k=>oE h fun Ah Ae h=>dt k 6 z (by kernel_rfl) z s (fun _ _ _=>id) (fun w s=>r_ixa Ac Ae k ts28 z z z) fun a k=>dt k 7 z (by kernel_rfl) z s (fun _ _ _=>id) (fun w s=>r_lde Ac ((hMd.step s).a00 (Enc.rd_lt Ac)) Ae ta97 k z z) fun a k=>d_one 8 (by kernel_rfl) z (oE h fun Ap Ai h=>cE k m call189 z z z (c_laws_eqItem fu (Aj:Item) (Ah:Item)  Ai) fun Ao e a k m=>?_)
     have s:=s.trans e (by simp)
     refine wpList_nil ⟨s,?_⟩
     refine dN [9] 1 z k (by kernel_rfl) z s (fun _ _ _ _ _=>id) fun a k=>d_done (by kernel_rfl) ((nm_then ?_))
     refine cI h k z (fun Af h=>?_) fun Af h=>?_
     · refine wr (pN 1 k z fun a k=>nn (wp_ret (rt_block (rt_then (rt_then (rt_block (rt_then ?_)))))))
       refine fS h k m z z
     refine wp_skip (nm_block (nm_then ?_))
     refine wp_region_lit (pN 3 k z fun a k=>nn ?_)
     exact ⟨w64 (Ab + 1),k.keep [0,1,5] z,m.sel [] z (by decide),h⟩
   refine wp_exit (ex_then (ex_then (ex_same (nm_then ?_))))
   refine wr (pN 1 k z fun a k=>nn (wp_ret (fS h k m z z)))
 exact ⟨0,k.keep [0,1,5] z,m.sel [] z (by decide),h⟩
theorem c_laws_eqRequest (fu:Nat) {w0:World} (a1:Request) (b5:Request) {Ad:List Value} {F3:List Nat} (Ax:rd w0 F3 Ad a1) {Ac:List Value} {F7:List Nat} (Aw:rd w0 F7 Ac b5) {r:Bool}
    (h:d_laws_eqRequest fu a1 b5 = some r) :
    Calls Tryz.prog 30 #[.agg Ad.toArray,.agg Ac.toArray] w0 fun e w=>e = .returned (.bool (r)) ∧ Ext [] w0 w:=by
 refine enter (vs:=[_,_]) func30 z ntmps30 z fun a k=>?_
 have m:=St.start w0
 obtain ⟨v9,Bn,Aq,Bg,Am,Bm,rfl,rfl,Af,Aj,Ae⟩:=Ax
 obtain ⟨Ap,Bf,Al,Bo,Ak,Bl,rfl,rfl,Ai,Ag,Ah⟩:=Aw
 unfold d_laws_eqRequest at h
 refine wr (s_box (cs:=[I a1.fWay,I a1.fPallet.fW,I a1.fPallet.fD,I a1.fPallet.fH,I a1.fPallet.fGram,I a1.fClasses,v9,Aq,I a1.fMaster,Am]) m k z z z z z z fun Bj Bd a k m e Aa=>s_box (cs:=[I b5.fWay,I b5.fPallet.fW,I b5.fPallet.fD,I b5.fPallet.fH,I b5.fPallet.fGram,I b5.fClasses,Ap,Al,I b5.fMaster,Ak]) m k z z z z z z fun Bs Bq a k m e Ab=>pN 1 k z fun a k=>nn (wp_seq (wr (sv k z (r_fa fa30_0 k z z) fun a k=>sv k z (r_ldb t13 m 1 Aa 0 k z z z z z) fun a k=>sv k z (r_fa fa30_0 k z z) fun a k=>sv k z (r_ldb t13 m 0 Ab 0 k z z z z z) fun a k=>pN 1 k z fun a k=>nn ?_))))
 refine cI h k z (fun Ba h=>?_) fun Ba h=>?_
 · refine wr (pN 1 k z fun a k=>nn (wp_ret (rt_then ?_)))
   refine fS h k m z z
 refine wp_skip (nm_then ?_)
 refine wp_seq (wr (sv k z (r_fa fa30_1 k z z) fun a k=>sv k z (r_ldB ta25 m 1 Aa 1 k z z z z z z) fun a k=>sv k z (r_fa fa30_1 k z z) fun a k=>sv k z (r_ldB ta25 m 0 Ab 1 k z z z z z z) fun a k=>oE h fun Br Bb h=>cE k m call96 z z z (c_laws_eqPallet fu (a1.fPallet:Pallet) (b5.fPallet:Pallet)  Bb) fun Bk e a k m=>pN 1 k z fun a k=>nn (cI h k z (fun Ar h=>?_) fun Ar h=>?_)))
 · refine wr (pN 1 k z fun a k=>nn (wp_ret (rt_then ?_)))
   refine fS h k m z z
 refine wp_skip (nm_then ?_)
 refine wp_seq (wr (sv k z (r_fa fa30_2 k z z) fun a k=>sv k z (r_ldb t13 m 1 Aa 5 k z z z z z) fun a k=>sv k z (r_fa fa30_2 k z z) fun a k=>sv k z (r_ldb t13 m 0 Ab 5 k z z z z z) fun a k=>pN 1 k z fun a k=>nn (cI h k z (fun Av h=>?_) fun Av h=>?_)))
 · refine wr (pN 1 k z fun a k=>nn (wp_ret (rt_then ?_)))
   refine fS h k m z z
 refine wp_skip (nm_then ?_)
 refine wp_seq (wr (sv k z (r_fa fa30_3 k z z) fun a k=>sv k z (r_ldb t126 m 1 Aa 6 k z z z z z) fun a k=>sv k z (r_fa fa30_3 k z z) fun a k=>sv k z (r_ldb t126 m 0 Ab 6 k z z z z z) fun a k=>oE h fun Bh Az h=>cE k m call97 z z z (c_laws_eqPairS fu _ _ (Enc.rd_agr Af (m.a00 (Enc.rd_lt Af))) (Enc.rd_agr Ai (m.a00 (Enc.rd_lt Ai))) Az) fun Be e a k m=>pN 1 k z fun a k=>?_))
 have k:=k.keep [2,3,26] z
 refine nn (cI h k z (fun Ao h=>?_) fun Ao h=>?_)
 · refine wr (pN 1 k z fun a k=>nn (wp_ret (rt_then ?_)))
   refine fS h k m z z
 refine wp_skip (nm_then ?_)
 refine wp_seq (wr (sv k z (r_fa fa30_4 k z z) fun a k=>sv k z (r_ldb t127 m 1 Aa 7 k z z z z z) fun a k=>sv k z (r_fa fa30_4 k z z) fun a k=>sv k z (r_ldb t127 m 0 Ab 7 k z z z z z) fun a k=>oE h fun Bp As h=>cE k m call98 z z z (c_laws_eqTypeS fu _ _ (Enc.rd_agr Aj (m.a00 (Enc.rd_lt Aj))) (Enc.rd_agr Ag (m.a00 (Enc.rd_lt Ag))) As) fun Bi e a k m=>pN 1 k z fun a k=>nn (cI h k z (fun Bc h=>?_) fun Bc h=>?_)))
 · refine wr (pN 1 k z fun a k=>nn (wp_ret (rt_then ?_)))
   refine fS h k m z z
 refine wp_skip (nm_then ?_)
 refine wp_seq (wr (sv k z (r_fa fa30_5 k z z) fun a k=>sv k z (r_ldb t13 m 1 Aa 8 k z z z z z) fun a k=>sv k z (r_fa fa30_5 k z z) fun a k=>sv k z (r_ldb t13 m 0 Ab 8 k z z z z z) fun a k=>pN 1 k z fun a k=>nn (cI h k z (fun At h=>?_) fun At h=>?_)))
 · refine wr (pN 1 k z fun a k=>nn (wp_ret (rt_then ?_)))
   refine fS h k m z z
 refine wp_skip (nm_then ?_)
 refine wp_seq (wr (sv k z (r_fa fa30_6 k z z) fun a k=>sv k z (r_ldb t128 m 1 Aa 9 k z z z z z) fun a k=>sv k z (r_fa fa30_6 k z z) fun a k=>sv k z (r_ldb t128 m 0 Ab 9 k z z z z z) fun a k=>oE h fun Bu Ay h=>cE k m call99 z z z (c_laws_eqItemS fu _ _ (Enc.rd_agr Ae (m.a00 (Enc.rd_lt Ae))) (Enc.rd_agr Ah (m.a00 (Enc.rd_lt Ah))) Ay) fun Bt e a k m=>pN 1 k z fun a k=>nn (cI h k z (fun Au h=>?_) fun Au h=>?_)))
 · refine wr (pN 1 k z fun a k=>nn (wp_ret (rt_then ?_)))
   refine fS h k m z z
 refine wp_skip (nm_then ?_)
 refine wr (pN 1 k z fun a k=>nn (wp_ret (fS h k m z z)))
theorem c_laws_markPairS (fu:Nat) {w0:World} (a1:List Pair) (Ae:Int) {v2:Value} {F3:List Nat} (Ag:ow w0 F3 [v2] a1) {r:Int × (List Pair)}
    (h:d_laws_markPairS fu a1 Ae = some r) :
    Calls Tryz.prog 100 #[v2,I Ae] w0 fun e w=>∃ (H0:List Nat),e = .returned (I r.1) ∧ Ext F3 w0 w ∧ (∀ b ∈ H0,b ∈ F3 ∨ w0.heap.size ≤ b) ∧ ow w H0 [v2] r.2:=by
 refine enter (vs:=[_,_]) func100 z ntmps100 z fun a k=>?_
 have m:=St.start1 w0 (Enc.rd_lt (Enc.ow_rd Ag)) (Enc.ow_nd Ag)
 unfold d_laws_markPairS at h
 refine wr (pN 1 k z fun a k=>nn (wp_seq (wr (pN 1 k z fun a k=>nn (wp_block (c_loop (fun n a w=>∃ (Ad:List Pair) (Af:World) (Aa:Int) (Ab:Int),K 27 [(0,v2),(1,I Aa),(5,I Ab)] a ∧ St F3 w0 w [(F3,Af)] ∧ ow Af F3 [v2] Ad ∧ d_laws_markPairS_L1 fu  n Ad Aa Ab = some r) ?_ ?_ fu _ _ ?_))))))
 · rintro a w ⟨_,_,_,_,_,_,_,h⟩
   exact nS h
 · rintro Aq a As ⟨Ad,Af,Aa,Ab,k,m,Ac,h⟩
   rw [d_laws_markPairS_L1_s] at h
   unfold d_laws_markPairS_L1_B at h
   refine wp_seq (wr (pN 2 k z fun a k=>sv k z (r_len (α:=Pair) (Enc.ow_rd Ac) k underlying26 z z) fun a k=>pN 1 k z fun a k=>nn (cI h k z (fun Ao h=>?_) fun Ao h=>?_)))
   · refine wp_skip (nm_then ?_)
     refine wp_seq (wp_block (wr (pN 3 k z fun a k=>oE h fun Ah Aj h=>sv k z (r_ixa (Enc.ow_rd Ac) Aj k ts26 z z z) fun a k=>sv k z (r_fa fa158_0 k z z) fun a k=>s_ste (α:=Pair) (sz:=2) (y:={ Ah with fA:=Aa }) sizeOf3 Aj m 0 Ac 0 k z z z z z z z z z z z z fun Ar a k e m Ai=>nn (wr (pN 3 k z fun a k=>nn (wr (pN 3 k z fun a k=>oE h fun Ak Al h=>sv k z (r_ixa (Enc.ow_rd Ai) Al k ts26 z z z) fun a k=>sv k z (r_fa fa158_1 k z z) fun a k=>s_ste (α:=Pair) (sz:=2) (y:={ Ak with fB:=w64 (Aa + 1) }) sizeOf3 Al m 0 Ai 1 k z z z z z z z z z z z z fun Ap a k e m Am=>nn (wp_region_lit (pN 3 k z fun a k=>wpList_nil (nm_block (nm_then ?_)))))))))))
     refine wp_region_lit (pN 3 k z fun a k=>?_)
     have k:=k.keep [0,1,5] z
     refine nn ?_
     exact ⟨setx (setx Ad Ab ({ Ah with fA:=Aa })) Ab ({ Ak with fB:=w64 (Aa + 1) }),Ap,w64 ((w64 (Aa + 1)) + 1),w64 (Ab + 1),k.keep [0,1,5] z,m.sel [0] z (by decide),Am,h⟩
   refine wp_exit (ex_then (ex_then (ex_same (nm_then ?_))))
   refine wr (pN 2 k z fun a k=>nn (wp_ret ?_))
   cases h
   exact finR1 k z (RV.tmp k z) ⟨F3,z,m.ext,(fun b hb=>m.lo b (mem_fps (i:=0) z hb)),(Enc.ow_agr Ac (m.a 0 z))⟩
 exact ⟨a1,w0,Ae,0,k.keep [0,1,5] z,m.sel [0] z (by decide),Ag,h⟩
theorem c_laws_markTypeS (fu:Nat) {w0:World} (a1:List Typ) (Ae:Int) {v2:Value} {F3:List Nat} (Af:ow w0 F3 [v2] a1) {r:Int × (List Typ)}
    (h:d_laws_markTypeS fu a1 Ae = some r) :
    Calls Tryz.prog 101 #[v2,I Ae] w0 fun e w=>∃ (H0:List Nat),e = .returned (I r.1) ∧ Ext F3 w0 w ∧ (∀ b ∈ H0,b ∈ F3 ∨ w0.heap.size ≤ b) ∧ ow w H0 [v2] r.2:=by
 refine enter (vs:=[_,_]) func101 z ntmps101 z fun a k=>?_
 have m:=St.start1 w0 (Enc.rd_lt (Enc.ow_rd Af)) (Enc.ow_nd Af)
 unfold d_laws_markTypeS at h
 refine wr (pN 1 k z fun a k=>nn (wp_seq (wr (pN 1 k z fun a k=>nn (wp_block (c_loop (fun n a w=>∃ (Ad:List Typ) (Ag:World) (Aa:Int) (Ab:Int),K 62 [(0,v2),(1,I Aa),(5,I Ab)] a ∧ St F3 w0 w [(F3,Ag)] ∧ ow Ag F3 [v2] Ad ∧ d_laws_markTypeS_L1 fu  n Ad Aa Ab = some r) ?_ ?_ fu _ _ ?_))))))
 · rintro a w ⟨_,_,_,_,_,_,_,h⟩
   exact nS h
 · rintro Bl a Bf ⟨Ad,Ag,Aa,Ab,k,m,Ac,h⟩
   rw [d_laws_markTypeS_L1_s] at h
   unfold d_laws_markTypeS_L1_B at h
   refine wp_seq (wr (pN 2 k z fun a k=>sv k z (r_len (α:=Typ) (Enc.ow_rd Ac) k underlying27 z z) fun a k=>pN 1 k z fun a k=>nn (cI h k z (fun Be h=>?_) fun Be h=>?_)))
   · refine wp_skip (nm_then ?_)
     refine wp_seq (wp_block (wr (pN 3 k z fun a k=>oE h fun At Aw h=>sv k z (r_ixa (Enc.ow_rd Ac) Aw k ts27 z z z) fun a k=>sv k z (r_fa fa38_0 k z z) fun a k=>s_ste (α:=Typ) (sz:=7) (y:={ At with fId:=Aa }) sizeOf3 Aw m 0 Ac 0 k z z z z z z z z z z z z fun Bi a k e m Ai=>nn (wr (pN 3 k z fun a k=>nn (wr (pN 3 k z fun a k=>oE h fun Av Ap h=>sv k z (r_ixa (Enc.ow_rd Ai) Ap k ts27 z z z) fun a k=>sv k z (r_fa fa38_1 k z z) fun a k=>s_ste (α:=Typ) (sz:=7) (y:={ Av with fW:=w64 (Aa + 1) }) sizeOf3 Ap m 0 Ai 1 k z z z z z z z z z z z z fun Bm a k e m Ba=>nn (wr (pN 3 k z fun a k=>nn (wr (pN 3 k z fun a k=>oE h fun Aj Au h=>?_)))))))))))
     refine sv k z (r_ixa (Enc.ow_rd Ba) Au k ts27 z z z) fun a k=>sv k z (r_fa fa38_2 k z z) fun a k=>s_ste (α:=Typ) (sz:=7) (y:={ Aj with fH:=w64 ((w64 (Aa + 1)) + 1) }) sizeOf3 Au m 0 Ba 2 k z z z z z z z z z z z z fun Bj a k e m As=>?_
     have k:=k.keep [0,1,5] z
     refine nn (wr (pN 3 k z fun a k=>nn (wr (pN 3 k z fun a k=>oE h fun Ax Ak h=>sv k z (r_ixa (Enc.ow_rd As) Ak k ts27 z z z) fun a k=>sv k z (r_fa fa38_3 k z z) fun a k=>s_ste (α:=Typ) (sz:=7) (y:={ Ax with fD:=w64 ((w64 ((w64 (Aa + 1)) + 1)) + 1) }) sizeOf3 Ak m 0 As 3 k z z z z z z z z z z z z fun Bk a k e m Az=>nn (wr (pN 3 k z fun a k=>nn (wr (pN 3 k z fun a k=>oE h fun Am Ao h=>sv k z (r_ixa (Enc.ow_rd Az) Ao k ts27 z z z) fun a k=>sv k z (r_fa fa38_4 k z z) fun a k=>s_ste (α:=Typ) (sz:=7) (y:={ Am with fTare:=w64 ((w64 ((w64 ((w64 (Aa + 1)) + 1)) + 1)) + 1) }) sizeOf3 Ao m 0 Az 4 k z z z z z z z z z z z z fun Bh a k e m Aq=>nn (wr (pN 3 k z fun a k=>nn (wr ?_)))))))))))
     refine pN 3 k z fun a k=>oE h fun Al Ah h=>sv k z (r_ixa (Enc.ow_rd Aq) Ah k ts27 z z z) fun a k=>sv k z (r_fa fa38_5 k z z) fun a k=>s_ste (α:=Typ) (sz:=7) (y:={ Al with fGram:=w64 ((w64 ((w64 ((w64 ((w64 (Aa + 1)) + 1)) + 1)) + 1)) + 1) }) sizeOf3 Ah m 0 Aq 5 k z z z z z z z z z z z z fun Bg a k e m Bb=>?_
     have k:=k.keep [0,1,5] z
     refine nn (wr (pN 3 k z fun a k=>nn (wr (pN 3 k z fun a k=>oE h fun Ar Ay h=>sv k z (r_ixa (Enc.ow_rd Bb) Ay k ts27 z z z) fun a k=>sv k z (r_fa fa38_6 k z z) fun a k=>s_ste (α:=Typ) (sz:=7) (y:={ Ar with fCost:=w64 ((w64 ((w64 ((w64 ((w64 ((w64 (Aa + 1)) + 1)) + 1)) + 1)) + 1)) + 1) }) sizeOf3 Ay m 0 Bb 6 k z z z z z z z z z z z z fun Bc a k e m Bd=>nn (wp_region_lit (pN 3 k z fun a k=>wpList_nil (nm_block (nm_then ?_))))))))
     refine wp_region_lit (pN 3 k z fun a k=>nn ?_)
     exact ⟨setx (setx (setx (setx (setx (setx (setx Ad Ab ({ At with fId:=Aa })) Ab ({ Av with fW:=w64 (Aa + 1) })) Ab ({ Aj with fH:=w64 ((w64 (Aa + 1)) + 1) })) Ab ({ Ax with fD:=w64 ((w64 ((w64 (Aa + 1)) + 1)) + 1) })) Ab ({ Am with fTare:=w64 ((w64 ((w64 ((w64 (Aa + 1)) + 1)) + 1)) + 1) })) Ab ({ Al with fGram:=w64 ((w64 ((w64 ((w64 ((w64 (Aa + 1)) + 1)) + 1)) + 1)) + 1) })) Ab ({ Ar with fCost:=w64 ((w64 ((w64 ((w64 ((w64 ((w64 (Aa + 1)) + 1)) + 1)) + 1)) + 1)) + 1) }),Bc,w64 ((w64 ((w64 ((w64 ((w64 ((w64 ((w64 (Aa + 1)) + 1)) + 1)) + 1)) + 1)) + 1)) + 1),w64 (Ab + 1),k.keep [0,1,5] z,m.sel [0] z (by decide),Bd,h⟩
   refine wp_exit (ex_then (ex_then (ex_same (nm_then ?_))))
   refine wr (pN 2 k z fun a k=>nn (wp_ret ?_))
   cases h
   exact finR1 k z (RV.tmp k z) ⟨F3,z,m.ext,(fun b hb=>m.lo b (mem_fps (i:=0) z hb)),(Enc.ow_agr Ac (m.a 0 z))⟩
 exact ⟨a1,w0,Ae,0,k.keep [0,1,5] z,m.sel [0] z (by decide),Af,h⟩
theorem c_laws_markItemS (fu:Nat) {w0:World} (a1:List Item) (Ae:Int) {v2:Value} {F3:List Nat} (Af:ow w0 F3 [v2] a1) {r:Int × (List Item)}
    (h:d_laws_markItemS fu a1 Ae = some r) :
    Calls Tryz.prog 102 #[v2,I Ae] w0 fun e w=>∃ (H0:List Nat),e = .returned (I r.1) ∧ Ext F3 w0 w ∧ (∀ b ∈ H0,b ∈ F3 ∨ w0.heap.size ≤ b) ∧ ow w H0 [v2] r.2:=by
 refine enter (vs:=[_,_]) func102 z ntmps102 z fun a k=>?_
 have m:=St.start1 w0 (Enc.rd_lt (Enc.ow_rd Af)) (Enc.ow_nd Af)
 unfold d_laws_markItemS at h
 refine wr (pN 1 k z fun a k=>nn (wp_seq (wr (pN 1 k z fun a k=>nn (wp_block (c_loop (fun n a w=>∃ (Ad:List Item) (Ag:World) (Aa:Int) (Ab:Int),K 62 [(0,v2),(1,I Aa),(5,I Ab)] a ∧ St F3 w0 w [(F3,Ag)] ∧ ow Ag F3 [v2] Ad ∧ d_laws_markItemS_L1 fu  n Ad Aa Ab = some r) ?_ ?_ fu _ _ ?_))))))
 · rintro a w ⟨_,_,_,_,_,_,_,h⟩
   exact nS h
 · rintro Bl a Bf ⟨Ad,Ag,Aa,Ab,k,m,Ac,h⟩
   rw [d_laws_markItemS_L1_s] at h
   unfold d_laws_markItemS_L1_B at h
   refine wp_seq (wr (pN 2 k z fun a k=>sv k z (r_len (α:=Item) (Enc.ow_rd Ac) k underlying28 z z) fun a k=>pN 1 k z fun a k=>nn (cI h k z (fun Be h=>?_) fun Be h=>?_)))
   · refine wp_skip (nm_then ?_)
     refine wp_seq (wp_block (wr (pN 3 k z fun a k=>oE h fun At Aw h=>sv k z (r_ixa (Enc.ow_rd Ac) Aw k ts28 z z z) fun a k=>sv k z (r_fa fa97_0 k z z) fun a k=>s_ste (α:=Item) (sz:=7) (y:={ At with fId:=Aa }) sizeOf3 Aw m 0 Ac 0 k z z z z z z z z z z z z fun Bi a k e m Ai=>nn (wr (pN 3 k z fun a k=>nn (wr (pN 3 k z fun a k=>oE h fun Av Ap h=>sv k z (r_ixa (Enc.ow_rd Ai) Ap k ts28 z z z) fun a k=>sv k z (r_fa fa97_1 k z z) fun a k=>s_ste (α:=Item) (sz:=7) (y:={ Av with fW:=w64 (Aa + 1) }) sizeOf3 Ap m 0 Ai 1 k z z z z z z z z z z z z fun Bm a k e m Ba=>nn (wr (pN 3 k z fun a k=>nn (wr (pN 3 k z fun a k=>oE h fun Aj Au h=>?_)))))))))))
     refine sv k z (r_ixa (Enc.ow_rd Ba) Au k ts28 z z z) fun a k=>sv k z (r_fa fa97_2 k z z) fun a k=>s_ste (α:=Item) (sz:=7) (y:={ Aj with fH:=w64 ((w64 (Aa + 1)) + 1) }) sizeOf3 Au m 0 Ba 2 k z z z z z z z z z z z z fun Bj a k e m As=>?_
     have k:=k.keep [0,1,5] z
     refine nn (wr (pN 3 k z fun a k=>nn (wr (pN 3 k z fun a k=>oE h fun Ax Ak h=>sv k z (r_ixa (Enc.ow_rd As) Ak k ts28 z z z) fun a k=>sv k z (r_fa fa97_3 k z z) fun a k=>s_ste (α:=Item) (sz:=7) (y:={ Ax with fD:=w64 ((w64 ((w64 (Aa + 1)) + 1)) + 1) }) sizeOf3 Ak m 0 As 3 k z z z z z z z z z z z z fun Bk a k e m Az=>nn (wr (pN 3 k z fun a k=>nn (wr (pN 3 k z fun a k=>oE h fun Am Ao h=>sv k z (r_ixa (Enc.ow_rd Az) Ao k ts28 z z z) fun a k=>sv k z (r_fa fa97_4 k z z) fun a k=>s_ste (α:=Item) (sz:=7) (y:={ Am with fGram:=w64 ((w64 ((w64 ((w64 (Aa + 1)) + 1)) + 1)) + 1) }) sizeOf3 Ao m 0 Az 4 k z z z z z z z z z z z z fun Bh a k e m Aq=>nn (wr (pN 3 k z fun a k=>nn (wr ?_)))))))))))
     refine pN 3 k z fun a k=>oE h fun Al Ah h=>sv k z (r_ixa (Enc.ow_rd Aq) Ah k ts28 z z z) fun a k=>sv k z (r_fa fa97_5 k z z) fun a k=>s_ste (α:=Item) (sz:=7) (y:={ Al with fClass:=w64 ((w64 ((w64 ((w64 ((w64 (Aa + 1)) + 1)) + 1)) + 1)) + 1) }) sizeOf3 Ah m 0 Aq 5 k z z z z z z z z z z z z fun Bg a k e m Bb=>?_
     have k:=k.keep [0,1,5] z
     refine nn (wr (pN 3 k z fun a k=>nn (wr (pN 3 k z fun a k=>oE h fun Ar Ay h=>sv k z (r_ixa (Enc.ow_rd Bb) Ay k ts28 z z z) fun a k=>sv k z (r_fa fa97_6 k z z) fun a k=>s_ste (α:=Item) (sz:=7) (y:={ Ar with fCount:=w64 ((w64 ((w64 ((w64 ((w64 ((w64 (Aa + 1)) + 1)) + 1)) + 1)) + 1)) + 1) }) sizeOf3 Ay m 0 Bb 6 k z z z z z z z z z z z z fun Bc a k e m Bd=>nn (wp_region_lit (pN 3 k z fun a k=>wpList_nil (nm_block (nm_then ?_))))))))
     refine wp_region_lit (pN 3 k z fun a k=>nn ?_)
     exact ⟨setx (setx (setx (setx (setx (setx (setx Ad Ab ({ At with fId:=Aa })) Ab ({ Av with fW:=w64 (Aa + 1) })) Ab ({ Aj with fH:=w64 ((w64 (Aa + 1)) + 1) })) Ab ({ Ax with fD:=w64 ((w64 ((w64 (Aa + 1)) + 1)) + 1) })) Ab ({ Am with fGram:=w64 ((w64 ((w64 ((w64 (Aa + 1)) + 1)) + 1)) + 1) })) Ab ({ Al with fClass:=w64 ((w64 ((w64 ((w64 ((w64 (Aa + 1)) + 1)) + 1)) + 1)) + 1) })) Ab ({ Ar with fCount:=w64 ((w64 ((w64 ((w64 ((w64 ((w64 (Aa + 1)) + 1)) + 1)) + 1)) + 1)) + 1) }),Bc,w64 ((w64 ((w64 ((w64 ((w64 ((w64 ((w64 (Aa + 1)) + 1)) + 1)) + 1)) + 1)) + 1)) + 1),w64 (Ab + 1),k.keep [0,1,5] z,m.sel [0] z (by decide),Bd,h⟩
   refine wp_exit (ex_then (ex_then (ex_same (nm_then ?_))))
   refine wr (pN 2 k z fun a k=>nn (wp_ret ?_))
   cases h
   exact finR1 k z (RV.tmp k z) ⟨F3,z,m.ext,(fun b hb=>m.lo b (mem_fps (i:=0) z hb)),(Enc.ow_agr Ac (m.a 0 z))⟩
 exact ⟨a1,w0,Ae,0,k.keep [0,1,5] z,m.sel [0] z (by decide),Af,h⟩
theorem c_laws_markRequest (fu:Nat) {w0:World} (a1:Request) (Ag:Int) {Aa:List Value} {F3:List Nat} (Ac:ow w0 F3 Aa a1) {r:Int × Request}
    (h:d_laws_markRequest fu a1 Ag = some r) :
    Calls Tryz.prog 31 #[.agg Aa.toArray,I Ag] w0 fun e w=>∃ (H0:List Nat),e = .returned (I r.1) ∧ Ext F3 w0 w ∧ (∀ b ∈ H0,b ∈ F3 ∨ w0.heap.size ≤ b) ∧ ow w H0 Aa r.2:=by
 refine enter (vs:=[_,_]) func31 z ntmps31 z fun a k=>?_
 have m:=St.start1 w0 (Enc.rd_lt (Enc.ow_rd Ac)) (Enc.ow_nd Ac)
 obtain ⟨v6,F7,v9,Ba,At,Bg,rfl,rfl,Ao,Ak,Al,_⟩:=Ac
 have m:=m.split2
 have m:=m.split2at1
 unfold d_laws_markRequest at h
 refine wr (s_box (cs:=[I a1.fWay,I a1.fPallet.fW,I a1.fPallet.fD,I a1.fPallet.fH,I a1.fPallet.fGram,I a1.fClasses,v6,v9,I a1.fMaster,At]) m k z z z z z z fun Bd Aw a k m e Af=>pN 1 k z fun a k=>nn (wr (sv k z (r_fa fa30_3 k z z) fun a k=>sv k z (r_ldb t126 m 0 Af 6 k z z z z z) fun a k=>pN 1 k z fun a k=>oE h fun Az Aj h=>s_call k call100 z z z z z (c_laws_markPairS fu _ _ (Enc.ow_agr Ao (m.a 1 z)) Aj) fun Bf Be hR=>?_)))
 obtain ⟨Ar,rfl,e,Aq,Ab⟩:=hR
 refine ⟨_,z,fun a k=>?_⟩
 have m:=m.mut 1 z e _ (fun b hb=>⟨Aq b hb,Enc.rd_lt (Enc.ow_rd Ab) b hb⟩) (Enc.ow_nd Ab)
 refine pN 1 k z fun a k=>nn (wr (sv k z (r_fa fa30_4 k z z) fun a k=>sv k z (r_ldb t127 m 0 Af 7 k z z z z z) fun a k=>pN 1 k z fun a k=>oE h fun Bb Ap h=>s_call k call101 z z z z z (c_laws_markTypeS fu _ _ (Enc.ow_agr Ak (m.a 2 z)) Ap) fun Ax Av hR=>?_))
 obtain ⟨Au,rfl,e,As,Ad⟩:=hR
 refine ⟨_,z,fun a k=>?_⟩
 have m:=m.mut 2 z e _ (fun b hb=>⟨As b hb,Enc.rd_lt (Enc.ow_rd Ad) b hb⟩) (Enc.ow_nd Ad)
 refine pN 1 k z fun a k=>nn (wr (sv k z (r_fa fa30_6 k z z) fun a k=>sv k z (r_ldb t128 m 0 Af 9 k z z z z z) fun a k=>pN 1 k z fun a k=>oE h fun Ay Ah h=>s_call k call102 z z z z z (c_laws_markItemS fu _ _ (Enc.ow_agr Al (m.a 3 z)) Ah) fun Bh Bc hR=>?_))
 obtain ⟨Ai,rfl,e,Am,Ae⟩:=hR
 refine ⟨_,z,fun a k=>?_⟩
 have m:=m.mut 3 z e _ (fun b hb=>⟨Am b hb,Enc.rd_lt (Enc.ow_rd Ae) b hb⟩) (Enc.ow_nd Ae)
 refine pN 1 k z fun a k=>nn (wr (pN 2 k z fun a k=>nn (wp_ret ?_)))
 cases h
 exact finR1 k z (RV.tmp k z) ⟨Ar ++ (Au ++ (Ai)),z,m.ext,(fun b hb=>(m.sel [1,2,3] z (by decide)).lo b (by simpa [fps] using hb)),⟨_,_,_,_,_,_,z,z,(Enc.ow_agr Ab (m.a 1 z)),(Enc.ow_agr Ad (m.a 2 z)),(Enc.ow_agr Ae (m.a 3 z)),by simpa [fps] using (m.sel [1,2,3] z (by decide)).nd⟩⟩
theorem c_laws_markIntS (fu:Nat) {w0:World} (a1:List Int) (Ae:Int) {v2:Value} {F3:List Nat} (Ag:ow w0 F3 [v2] a1) {r:Int × (List Int)}
    (h:d_laws_markIntS fu a1 Ae = some r) :
    Calls Tryz.prog 55 #[v2,I Ae] w0 fun e w=>∃ (H0:List Nat),e = .returned (I r.1) ∧ Ext F3 w0 w ∧ (∀ b ∈ H0,b ∈ F3 ∨ w0.heap.size ≤ b) ∧ ow w H0 [v2] r.2:=by
 refine enter (vs:=[_,_]) func55 z ntmps55 z fun a k=>?_
 have m:=St.start1 w0 (Enc.rd_lt (Enc.ow_rd Ag)) (Enc.ow_nd Ag)
 unfold d_laws_markIntS at h
 refine wr (pN 1 k z fun a k=>nn (wp_seq (wr (pN 1 k z fun a k=>nn (wp_block (c_loop (fun n a w=>∃ (Ad:List Int) (Af:World) (Aa:Int) (Ab:Int),K 19 [(0,v2),(1,I Aa),(5,I Ab)] a ∧ St F3 w0 w [(F3,Af)] ∧ ow Af F3 [v2] Ad ∧ d_laws_markIntS_L1 fu  n Ad Aa Ab = some r) ?_ ?_ fu _ _ ?_))))))
 · rintro a w ⟨_,_,_,_,_,_,_,h⟩
   exact nS h
 · rintro Al a Am ⟨Ad,Af,Aa,Ab,k,m,Ac,h⟩
   rw [d_laws_markIntS_L1_s] at h
   unfold d_laws_markIntS_L1_B at h
   refine wp_seq (wr (pN 2 k z fun a k=>sv k z (r_len (α:=Int) (Enc.ow_rd Ac) k underlying31 z z) fun a k=>pN 1 k z fun a k=>nn (cI h k z (fun Ai h=>?_) fun Ai h=>?_)))
   · refine wp_skip (nm_then ?_)
     refine wp_seq (wp_block (wr (pN 3 k z fun a k=>oE h fun Ao Ah h=>sv k z (r_ixa (Enc.ow_rd Ac) Ah k ts31 z z z) fun a k=>s_ste (α:=Int) (sz:=1) (y:=Aa) sizeOf3 Ah m 0 Ac 0 k z z z z z z z z z z z z fun Aj a k e m Ak=>nn (wp_region_lit (pN 3 k z fun a k=>wpList_nil (nm_block (nm_then ?_)))))))
     refine wp_region_lit (pN 3 k z fun a k=>nn ?_)
     exact ⟨setx Ad Ab Aa,Aj,w64 (Aa + 1),w64 (Ab + 1),k.keep [0,1,5] z,m.sel [0] z (by decide),Ak,h⟩
   refine wp_exit (ex_then (ex_then (ex_same (nm_then ?_))))
   refine wr (pN 2 k z fun a k=>nn (wp_ret ?_))
   cases h
   exact finR1 k z (RV.tmp k z) ⟨F3,z,m.ext,(fun b hb=>m.lo b (mem_fps (i:=0) z hb)),(Enc.ow_agr Ac (m.a 0 z))⟩
 exact ⟨a1,w0,Ae,0,k.keep [0,1,5] z,m.sel [0] z (by decide),Ag,h⟩
theorem c_laws_markCartonS (fu:Nat) {w0:World} (a1:List Carton) (Ai:Int) {v2:Value} {F3:List Nat} (Ap:ow w0 F3 [v2] a1) {r:Int × (List Carton)}
    (h:d_laws_markCartonS fu a1 Ai = some r) :
    Calls Tryz.prog 136 #[v2,I Ai] w0 fun e w=>∃ (H0:List Nat),e = .returned (I r.1) ∧ Ext F3 w0 w ∧ (∀ b ∈ H0,b ∈ F3 ∨ w0.heap.size ≤ b) ∧ ow w H0 [v2] r.2:=by
 refine enter (vs:=[_,_]) func136 z ntmps136 z fun a k=>?_
 have m:=St.start1 w0 (Enc.rd_lt (Enc.ow_rd Ap)) (Enc.ow_nd Ap)
 unfold d_laws_markCartonS at h
 refine wr (pN 1 k z fun a k=>nn (wp_seq (wr (pN 1 k z fun a k=>nn (wp_block (c_loop (fun n a w=>∃ (Ah:List Carton) (As:World) (Ag:List Nat) (Aa:Int) (Ab:Int),K 34 [(0,v2),(1,I Aa),(5,I Ab)] a ∧ St F3 w0 w [(Ag,As)] ∧ ow As Ag [v2] Ah ∧ d_laws_markCartonS_L1 fu  n Ah Aa Ab = some r) ?_ ?_ fu _ _ ?_))))))
 · rintro a w ⟨_,_,_,_,_,_,_,_,h⟩
   exact nS h
 · rintro Cx a Bc ⟨Ah,As,Ag,Aa,Ab,k,m,Af,h⟩
   rw [d_laws_markCartonS_L1_s] at h
   unfold d_laws_markCartonS_L1_B at h
   refine wp_seq (wr (pN 2 k z fun a k=>sv k z (r_len (α:=Carton) (Enc.ow_rd Af) k underlying43 z z) fun a k=>pN 1 k z fun a k=>nn (cI h k z (fun Bp h=>?_) fun Bp h=>?_)))
   · refine wp_skip (nm_then ?_)
     refine wp_seq (wp_block (wr (pN 3 k z fun a k=>oE h fun Ae Aq h=>sv k z (r_ixa (Enc.ow_rd Af) Aq k ts43 z z z) fun a k=>sv k z (r_fa fa33_0 k z z) fun a k=>?_)))
     obtain ⟨Cy,Cm,Ch,Bi,Ba,Cu⟩:=rd_get (Enc.ow_rd Af) (ix_some Aq).2.2
     obtain ⟨Aj,_,rfl,rfl,Cp⟩:=Bi
     obtain ⟨Cg,Bf,m,Bw,Bt⟩:=m.opn 0 z Af Aq Ba z (M':=[]) z
     obtain ⟨Bd,_,Be,rfl,Cd,_⟩:=Bt
     obtain rfl:Aj = Bd:=by simpa using Be
     refine s_stH (α:=Carton) (sz:=3) (cs':=[I Aa,I Ae.fGroup,Aj]) sizeOf3 m 0 Bw 0 k z z z z z z z z z (allc z alln) z z fun Bm a k e m Bb=>?_
     obtain ⟨Cf,m,Au⟩:=(m.sel [0,1] z (by decide)).cls Bb (show ow Bc Bf [I Aa,I Ae.fGroup,Aj] ((⟨Aa,Ae.fGroup,Ae.fUnits⟩:Carton):Carton) from ⟨_,_,z,z,Cd,(m.ndF 1 z)⟩)
     refine nn (wr (pN 3 k z fun a k=>nn (wr (pN 3 k z fun a k=>oE h fun Ad At h=>sv k z (r_ixa (Enc.ow_rd Au) At k ts43 z z z) fun a k=>sv k z (r_fa fa33_1 k z z) fun a k=>?_))))
     obtain ⟨Cq,Ci,Cl,Br,By,Da⟩:=rd_get (Enc.ow_rd Au) (ix_some At).2.2
     obtain ⟨Ak,_,rfl,rfl,Cr⟩:=Br
     obtain ⟨Cw,Bu,m,Bq,Bz⟩:=m.opn 0 z Au At By z (M':=[]) z
     obtain ⟨Ca,_,Cc,rfl,Ce,_⟩:=Bz
     obtain rfl:Ak = Ca:=by simpa using Cc
     refine s_stH (α:=Carton) (sz:=3) (cs':=[I Ad.fType,I (w64 (Aa + 1)),Ak]) sizeOf3 m 0 Bq 1 k z z z z z z z z z (allc z alln) z z fun Co a k e m Bl=>?_
     obtain ⟨Cz,m,Am⟩:=(m.sel [0,1] z (by decide)).cls Bl (show ow Bm Bu [I Ad.fType,I (w64 (Aa + 1)),Ak] ((⟨Ad.fType,w64 (Aa + 1),Ad.fUnits⟩:Carton):Carton) from ⟨_,_,z,z,Ce,(m.ndF 1 z)⟩)
     refine nn (wr (pN 3 k z fun a k=>nn (wp_region_lit (pN 2 k z fun a k=>oE h fun Ac Al h=>sv k z (r_ixa (Enc.ow_rd Am) Al k ts43 z z z) fun a k=>sv k z (r_fa fa33_2 k z z) fun a k=>?_))))
     obtain ⟨Cn,Cs,Ck,Bk,Ax,Bh⟩:=rd_get (Enc.ow_rd Am) (ix_some Al).2.2
     obtain ⟨Aw,_,rfl,rfl,Db⟩:=Bk
     refine sv k z (r_ld1 t131 ((Ax.agr (m.a 0 z) Bh).fld 2 1 (Nat.le_of_ble_eq_true z)) k z z) fun a k=>pN 1 k z fun a k=>?_
     obtain ⟨Cv,Ct,m,Bv,Ay⟩:=m.opn 0 z Am Al Ax z (M':=[]) z
     obtain ⟨Az,_,Bs,rfl,Bg,_⟩:=Ay
     obtain rfl:Aw = Az:=by simpa using Bs
     refine oE h fun Ar Bn h=>s_call k call55 z z z z z (c_laws_markIntS fu _ _ (Enc.ow_agr Bg (m.a 1 z)) Bn) fun Cj Av hR=>?_
     obtain ⟨Bj,rfl,e,Cb,Ao⟩:=hR
     refine ⟨_,z,fun a k=>?_⟩
     have m:=m.mut 1 z e _ (fun b hb=>⟨Cb b hb,Enc.rd_lt (Enc.ow_rd Ao) b hb⟩) (Enc.ow_nd Ao)
     obtain ⟨Bo,m,Bx⟩:=(m.sel [0,1] z (by decide)).cls Bv (show ow Av Bj [I Ac.fType,I Ac.fGroup,Aw] ((⟨Ac.fType,Ac.fGroup,Ar.2⟩:Carton):Carton) from ⟨_,_,z,z,Ao,(m.ndF 1 z)⟩)
     refine pN 1 k z fun a k=>?_
     have k:=k.keep [0,1,5] z
     refine wpList_nil (nm_block (nm_then ?_))
     refine wp_region_lit (pN 3 k z fun a k=>nn ?_)
     exact ⟨setx (setx (setx Ah Ab ((⟨Aa,Ae.fGroup,Ae.fUnits⟩:Carton))) Ab ((⟨Ad.fType,w64 (Aa + 1),Ad.fUnits⟩:Carton))) Ab ((⟨Ac.fType,Ac.fGroup,Ar.2⟩:Carton)),Av,Bo,Ar.1,w64 (Ab + 1),k.keep [0,1,5] z,m.sel [0] z (by decide),Bx,h⟩
   refine wp_exit (ex_then (ex_then (ex_same (nm_then ?_))))
   refine wr (pN 2 k z fun a k=>nn (wp_ret ?_))
   cases h
   exact finR1 k z (RV.tmp k z) ⟨Ag,z,m.ext,(fun b hb=>m.lo b (mem_fps (i:=0) z hb)),(Enc.ow_agr Af (m.a 0 z))⟩
 exact ⟨a1,w0,F3,Ai,0,k.keep [0,1,5] z,m.sel [0] z (by decide),Ap,h⟩

end Go.Proofs.YtlmibnlfkmiikaaGreat
