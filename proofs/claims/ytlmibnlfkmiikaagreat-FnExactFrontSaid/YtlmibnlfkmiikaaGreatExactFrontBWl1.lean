/- FnExactFront: the walks of functions that it reaches (ExactFrontBWl,part 1). Printed by gen.py. -/
import Derived.Test.YtlmibnlfkmiikaaGreatExactFrontBT
set_option maxRecDepth 20000
set_option linter.unusedSimpArgs false
set_option linter.unusedVariables false
namespace Go.Proofs.YtlmibnlfkmiikaaGreat
open Go Go.RowKit
open Enc (rd ow)
open Arg (argv)
open Ret (retv)
open Go.Proofs.Tryz


theorem c_laws_szPairS (fu:Nat) {w0:World} (a1:List Pair) (Aa:Int) {v2:Value} {F3:List Nat} (Ac:rd w0 F3 [v2] a1) {r:Int}
    (h:d_laws_szPairS fu a1 Aa = some r) :
    Calls Tryz.prog 81 #[v2,I Aa] w0 fun e w=>e = .returned (I r) ∧ Ext [] w0 w:=by
 refine enter (vs:=[_,_]) func81 z ntmps81 z fun a k=>?_
 have m:=St.start w0
 unfold d_laws_szPairS at h
 refine wr (pN 1 k z fun a k=>nn (wr (pN 2 k z fun a k=>sv k z (r_len (α:=Pair) Ac k underlying48 z z) fun a k=>pN 2 k z fun a k=>nn (wp_seq (wr (pN 2 k z fun a k=>nn (cI h k z (fun Ab h=>?_) fun Ab h=>?_)))))))
 · refine wr (pN 1 k z fun a k=>nn (wp_ret (rt_then ?_)))
   refine fS h k m z z
 refine wp_skip (nm_then ?_)
 refine wr (pN 2 k z fun a k=>nn (wp_ret (fS h k m z z)))
theorem c_laws_szTypeS (fu:Nat) {w0:World} (a1:List Typ) (Aa:Int) {v2:Value} {F3:List Nat} (Ac:rd w0 F3 [v2] a1) {r:Int}
    (h:d_laws_szTypeS fu a1 Aa = some r) :
    Calls Tryz.prog 82 #[v2,I Aa] w0 fun e w=>e = .returned (I r) ∧ Ext [] w0 w:=by
 refine enter (vs:=[_,_]) func82 z ntmps82 z fun a k=>?_
 have m:=St.start w0
 unfold d_laws_szTypeS at h
 refine wr (pN 1 k z fun a k=>nn (wr (pN 2 k z fun a k=>sv k z (r_len (α:=Typ) Ac k underlying49 z z) fun a k=>pN 2 k z fun a k=>nn (wp_seq (wr (pN 2 k z fun a k=>nn (cI h k z (fun Ab h=>?_) fun Ab h=>?_)))))))
 · refine wr (pN 1 k z fun a k=>nn (wp_ret (rt_then ?_)))
   refine fS h k m z z
 refine wp_skip (nm_then ?_)
 refine wr (pN 2 k z fun a k=>nn (wp_ret (fS h k m z z)))
theorem c_laws_szItemS (fu:Nat) {w0:World} (a1:List Item) (Aa:Int) {v2:Value} {F3:List Nat} (Ac:rd w0 F3 [v2] a1) {r:Int}
    (h:d_laws_szItemS fu a1 Aa = some r) :
    Calls Tryz.prog 83 #[v2,I Aa] w0 fun e w=>e = .returned (I r) ∧ Ext [] w0 w:=by
 refine enter (vs:=[_,_]) func83 z ntmps83 z fun a k=>?_
 have m:=St.start w0
 unfold d_laws_szItemS at h
 refine wr (pN 1 k z fun a k=>nn (wr (pN 2 k z fun a k=>sv k z (r_len (α:=Item) Ac k underlying50 z z) fun a k=>pN 2 k z fun a k=>nn (wp_seq (wr (pN 2 k z fun a k=>nn (cI h k z (fun Ab h=>?_) fun Ab h=>?_)))))))
 · refine wr (pN 1 k z fun a k=>nn (wp_ret (rt_then ?_)))
   refine fS h k m z z
 refine wp_skip (nm_then ?_)
 refine wr (pN 2 k z fun a k=>nn (wp_ret (fS h k m z z)))
theorem c_laws_szRequest (fu:Nat) {w0:World} (a1:Request) (Af:Int) {Ad:List Value} {F3:List Nat} (Ah:rd w0 F3 Ad a1) {r:Int}
    (h:d_laws_szRequest fu a1 Af = some r) :
    Calls Tryz.prog 23 #[.agg Ad.toArray,I Af] w0 fun e w=>e = .returned (I r) ∧ Ext [] w0 w:=by
 refine enter (vs:=[_,_]) func23 z ntmps23 z fun a k=>?_
 have m:=St.start w0
 obtain ⟨v6,F7,v8,F9,Ag,Ap,rfl,rfl,Ac,Ab,Ae⟩:=Ah
 unfold d_laws_szRequest at h
 refine wr (s_box (cs:=[I a1.fWay,I a1.fPallet.fW,I a1.fPallet.fD,I a1.fPallet.fH,I a1.fPallet.fGram,I a1.fClasses,v6,v8,I a1.fMaster,Ag]) m k z z z z z z fun Av Aw a k m e Aa=>pN 1 k z fun a k=>nn (wr (sv k z (r_fa fa52_3 k z z) fun a k=>sv k z (r_ldb t148 m 0 Aa 6 k z z z z z) fun a k=>pN 1 k z fun a k=>oE h fun Ar Ai h=>cE k m call81 z z z (c_laws_szPairS fu _ _ (Enc.rd_agr Ac (m.a00 (Enc.rd_lt Ac))) Ai) fun Aq e a k m=>pN 1 k z fun a k=>nn (wp_seq (wr (pN 2 k z fun a k=>nn (cI h k z (fun Aj h=>?_) fun Aj h=>?_)))))))
 · refine wr (pN 1 k z fun a k=>nn (wp_ret (rt_then ?_)))
   refine fS h k m z z
 refine wp_skip (nm_then ?_)
 refine wr (sv k z (r_fa fa52_4 k z z) fun a k=>sv k z (r_ldb t149 m 0 Aa 7 k z z z z z) fun a k=>pN 1 k z fun a k=>oE h fun Au Am h=>cE k m call82 z z z (c_laws_szTypeS fu _ _ (Enc.rd_agr Ab (m.a00 (Enc.rd_lt Ab))) Am) fun As e a k m=>pN 1 k z fun a k=>nn (wp_seq (wr (pN 2 k z fun a k=>nn (cI h k z (fun Ak h=>?_) fun Ak h=>?_)))))
 · refine wr (pN 1 k z fun a k=>nn (wp_ret (rt_then ?_)))
   refine fS h k m z z
 refine wp_skip (nm_then ?_)
 refine wr (sv k z (r_fa fa52_6 k z z) fun a k=>sv k z (r_ldb t150 m 0 Aa 9 k z z z z z) fun a k=>pN 1 k z fun a k=>oE h fun Ax Ao h=>cE k m call83 z z z (c_laws_szItemS fu _ _ (Enc.rd_agr Ae (m.a00 (Enc.rd_lt Ae))) Ao) fun At e a k m=>pN 1 k z fun a k=>nn (wp_seq (wr (pN 2 k z fun a k=>nn (cI h k z (fun Al h=>?_) fun Al h=>?_)))))
 · refine wr (pN 1 k z fun a k=>nn (wp_ret (rt_then ?_)))
   refine fS h k m z z
 refine wp_skip (nm_then ?_)
 refine wr (pN 2 k z fun a k=>?_)
 have k:=k.keep [4] z
 refine nn (wp_ret (fS h k m z z))
theorem c_laws_szIntS (fu:Nat) {w0:World} (a1:List Int) (Aa:Int) {v2:Value} {F3:List Nat} (Ac:rd w0 F3 [v2] a1) {r:Int}
    (h:d_laws_szIntS fu a1 Aa = some r) :
    Calls Tryz.prog 84 #[v2,I Aa] w0 fun e w=>e = .returned (I r) ∧ Ext [] w0 w:=by
 refine enter (vs:=[_,_]) func84 z ntmps84 z fun a k=>?_
 have m:=St.start w0
 unfold d_laws_szIntS at h
 refine wr (pN 1 k z fun a k=>nn (wr (pN 2 k z fun a k=>sv k z (r_len (α:=Int) Ac k underlying31 z z) fun a k=>pN 2 k z fun a k=>nn (wp_seq (wr (pN 2 k z fun a k=>nn (cI h k z (fun Ab h=>?_) fun Ab h=>?_)))))))
 · refine wr (pN 1 k z fun a k=>nn (wp_ret (rt_then ?_)))
   refine fS h k m z z
 refine wp_skip (nm_then ?_)
 refine wr (pN 2 k z fun a k=>nn (wp_ret (fS h k m z z)))
theorem c_laws_szCarton (fu:Nat) {w0:World} (a1:Carton) (Ab:Int) {Aa:List Value} {F3:List Nat} (Ae:rd w0 F3 Aa a1) {r:Int}
    (h:d_laws_szCarton fu a1 Ab = some r) :
    Calls Tryz.prog 199 #[.agg Aa.toArray,I Ab] w0 fun e w=>e = .returned (I r) ∧ Ext [] w0 w:=by
 refine enter (vs:=[_,_]) func199 z ntmps199 z fun a k=>?_
 have m:=St.start w0
 obtain ⟨v6,_,rfl,rfl,Ac⟩:=Ae
 unfold d_laws_szCarton at h
 refine wr (s_box (cs:=[I a1.fType,I a1.fGroup,v6]) m k z z z z z z fun b8 Ai a k m e Ag=>pN 1 k z fun a k=>nn (wr (sv k z (r_fa fa190_2 k z z) fun a k=>sv k z (r_ldb t131 m 0 Ag 2 k z z z z z) fun a k=>pN 1 k z fun a k=>oE h fun Ah Ad h=>cE k m call84 z z z (c_laws_szIntS fu _ _ (Enc.rd_agr Ac (m.a00 (Enc.rd_lt Ac))) Ad) fun Aj e a k m=>pN 1 k z fun a k=>nn (wp_seq (wr (pN 2 k z fun a k=>nn (cI h k z (fun Af h=>?_) fun Af h=>?_)))))))
 · refine wr (pN 1 k z fun a k=>nn (wp_ret (rt_then ?_)))
   refine fS h k m z z
 refine wp_skip (nm_then ?_)
 refine wr (pN 2 k z fun a k=>nn (wp_ret (fS h k m z z)))
theorem c_laws_szCartonS (fu:Nat) {w0:World} (a1:List Carton) (Ad:Int) {v2:Value} {F3:List Nat} (Aa:rd w0 F3 [v2] a1) {r:Int}
    (h:d_laws_szCartonS fu a1 Ad = some r) :
    Calls Tryz.prog 107 #[v2,I Ad] w0 fun e w=>e = .returned (I r) ∧ Ext [] w0 w:=by
 refine enter (vs:=[_,_]) func107 z ntmps107 z fun a k=>?_
 have m:=St.start w0
 unfold d_laws_szCartonS at h
 refine wr (pN 1 k z fun a k=>nn (wr (pN 2 k z fun a k=>sv k z (r_len (α:=Carton) Aa k underlying66 z z) fun a k=>pN 2 k z fun a k=>nn (wp_seq (wr (pN 2 k z fun a k=>nn (cI h k z (fun Ah h=>?_) fun Ah h=>?_)))))))
 · refine wr (pN 1 k z fun a k=>nn (wp_ret (rt_then ?_)))
   refine fS h k m z z
 refine wp_skip (nm_then ?_)
 refine wp_seq (wr (pN 1 k z fun a k=>nn (wp_block (c_loop (fun n a w=>∃ (Ae:Int) (Ab:Int),K 27 [(0,v2),(1,I Ae),(5,I Ab)] a ∧ St [] w0 w [] ∧ d_laws_szCartonS_L1 fu a1 n Ae Ab = some r) ?_ ?_ fu _ _ ?_))))
 · rintro a w ⟨_,_,_,_,h⟩
   exact nS h
 · rintro Av a At ⟨Ae,Ab,k,m,h⟩
   rw [d_laws_szCartonS_L1_s] at h
   unfold d_laws_szCartonS_L1_B at h
   refine wp_seq (wr (pN 2 k z fun a k=>sv k z (r_len (α:=Carton) Aa k underlying66 z z) fun a k=>pN 1 k z fun a k=>nn (cI h k z (fun Aq h=>?_) fun Aq h=>?_)))
   · refine wp_skip (nm_then ?_)
     refine wp_seq (wp_block (wr (pN 2 k z fun a k=>oE h fun Ac Af h=>sv k z (r_ixa Aa Af k ts66 z z z) fun a k=>?_)))
     obtain ⟨As,Aw,Ar,Am,Ak,Ao⟩:=rd_get Aa (ix_some Af).2.2
     obtain ⟨Ai,_,rfl,rfl,Ag⟩:=Am
     refine sv k z (r_ldA ta190 (Ak.agr (m.a00 (Enc.rd_lt Aa)) Ao) z k z z) fun a k=>pN 1 k z fun a k=>oE h fun Aj Ap h=>cE k m call199 z z z (c_laws_szCarton fu _ _ (show rd _ _ [I Ac.fType,I Ac.fGroup,Ai] (Ac:Carton) from ⟨_,_,z,z,(Enc.rd_agr Ag (m.a00 (Enc.rd_lt Ag)))⟩) Ap) fun Au e a k m=>pN 1 k z fun a k=>nn (wr (pN 2 k z fun a k=>nn (cI h k z (fun Al h=>?_) fun Al h=>?_)))
     · refine wr (pN 1 k z fun a k=>nn (wp_ret (rt_block (rt_then (rt_then (rt_block (rt_then ?_)))))))
       refine fS h k m z z
     refine wp_skip (nm_block (nm_then ?_))
     refine wp_region_lit (pN 3 k z fun a k=>nn ?_)
     exact ⟨Aj,w64 (Ab + 1),k.keep [0,1,5] z,m.sel [] z (by decide),h⟩
   refine wp_exit (ex_then (ex_then (ex_same (nm_then ?_))))
   refine wr (pN 2 k z fun a k=>nn (wp_ret (fS h k m z z)))
 exact ⟨w64 (Ad - ((a1.length:Int))),0,k.keep [0,1,5] z,m.sel [] z (by decide),h⟩
theorem c_laws_szSpotS (fu:Nat) {w0:World} (a1:List Spot) (Aa:Int) {v2:Value} {F3:List Nat} (Ac:rd w0 F3 [v2] a1) {r:Int}
    (h:d_laws_szSpotS fu a1 Aa = some r) :
    Calls Tryz.prog 108 #[v2,I Aa] w0 fun e w=>e = .returned (I r) ∧ Ext [] w0 w:=by
 refine enter (vs:=[_,_]) func108 z ntmps108 z fun a k=>?_
 have m:=St.start w0
 unfold d_laws_szSpotS at h
 refine wr (pN 1 k z fun a k=>nn (wr (pN 2 k z fun a k=>sv k z (r_len (α:=Spot) Ac k underlying67 z z) fun a k=>pN 2 k z fun a k=>nn (wp_seq (wr (pN 2 k z fun a k=>nn (cI h k z (fun Ab h=>?_) fun Ab h=>?_)))))))
 · refine wr (pN 1 k z fun a k=>nn (wp_ret (rt_then ?_)))
   refine fS h k m z z
 refine wp_skip (nm_then ?_)
 refine wr (pN 2 k z fun a k=>nn (wp_ret (fS h k m z z)))
theorem c_laws_szPlan (fu:Nat) {w0:World} (a1:Plan) (Ad:Int) {Ab:List Value} {F3:List Nat} (Ah:rd w0 F3 Ab a1) {r:Int}
    (h:d_laws_szPlan fu a1 Ad = some r) :
    Calls Tryz.prog 38 #[.agg Ab.toArray,I Ad] w0 fun e w=>e = .returned (I r) ∧ Ext [] w0 w:=by
 refine enter (vs:=[_,_]) func38 z ntmps38 z fun a k=>?_
 have m:=St.start w0
 obtain ⟨v6,F7,v8,F9,rfl,rfl,Ac,Aa⟩:=Ah
 unfold d_laws_szPlan at h
 refine wr (s_box (cs:=[v6,v8]) m k z z z z z z fun Ak Aq a k m e Ae=>pN 1 k z fun a k=>nn (wr (sv k z (r_fa fa69_0 k z z) fun a k=>sv k z (r_ldb t166 m 0 Ae 0 k z z z z z) fun a k=>pN 1 k z fun a k=>oE h fun Al Ai h=>cE k m call107 z z z (c_laws_szCartonS fu _ _ (Enc.rd_agr Ac (m.a00 (Enc.rd_lt Ac))) Ai) fun Ap e a k m=>pN 1 k z fun a k=>nn (wp_seq (wr (pN 2 k z fun a k=>nn (cI h k z (fun Aj h=>?_) fun Aj h=>?_)))))))
 · refine wr (pN 1 k z fun a k=>nn (wp_ret (rt_then ?_)))
   refine fS h k m z z
 refine wp_skip (nm_then ?_)
 refine wr (sv k z (r_fa fa69_1 k z z) fun a k=>sv k z (r_ldb t167 m 0 Ae 1 k z z z z z) fun a k=>pN 1 k z fun a k=>oE h fun Am Af h=>cE k m call108 z z z (c_laws_szSpotS fu _ _ (Enc.rd_agr Aa (m.a00 (Enc.rd_lt Aa))) Af) fun Ao e a k m=>pN 1 k z fun a k=>nn (wp_seq (wr (pN 2 k z fun a k=>nn (cI h k z (fun Ag h=>?_) fun Ag h=>?_)))))
 · refine wr (pN 1 k z fun a k=>nn (wp_ret (rt_then ?_)))
   refine fS h k m z z
 refine wp_skip (nm_then ?_)
 refine wr (pN 2 k z fun a k=>nn (wp_ret (fS h k m z z)))
theorem c_laws_toPallet (fu:Nat) {w0:World} (a1:Pallet)  {r:Pallet}
    (h:d_laws_toPallet fu a1 = some r) :
    Calls Tryz.prog 89 #[.agg (Flat.e (a1)).toArray] w0 fun e w=>e = .returned (.agg (Flat.e r).toArray) ∧ Ext [] w0 w:=by
 refine enter (vs:=[_]) func89 z ntmps89 z fun a k=>?_
 have m:=St.start w0
 unfold d_laws_toPallet at h
 refine wr (s_box (cs:=[I a1.fW,I a1.fD,I a1.fH,I a1.fGram]) m k z z z z z z fun b2 w4 a k m e Aa=>s_alloc (cs:=[I 0,I 0,I 0,I 0]) m k zeroValue25 z z z z z fun b5 w7 a k m e Ae=>nn (wr (s_alloc (cs:=[I 0,I 0,I 0,I 0]) m k zeroValue25 z z z z z fun b8 Ao a k m e Ah=>nn (wr (sv k z (r_fa fa47_0 k z z) fun a k=>sv k z (r_ldb t13 m 2 Aa 0 k z z z z z) fun a k=>sv k z (r_fa fa25_0 k z z) fun a k=>s_stb (cs':=[I a1.fW,I 0,I 0,I 0]) sizeOf3 m 0 Ah 0 k z z z z z z z z z z z fun Ak a k e m Ac=>nn (wr (sv k z (r_fa fa47_1 k z z) fun a k=>?_)))))))
 refine sv k z (r_ldb t13 m 2 Aa 1 k z z z z z) fun a k=>sv k z (r_fa fa25_1 k z z) fun a k=>s_stb (cs':=[I a1.fW,I a1.fD,I 0,I 0]) sizeOf3 m 0 Ac 1 k z z z z z z z z z z z fun Am a k e m Af=>nn (wr (sv k z (r_fa fa47_2 k z z) fun a k=>sv k z (r_ldb t13 m 2 Aa 2 k z z z z z) fun a k=>sv k z (r_fa fa25_2 k z z) fun a k=>s_stb (cs':=[I a1.fW,I a1.fD,I a1.fH,I 0]) sizeOf3 m 0 Af 2 k z z z z z z z z z z z fun Al a k e m Ab=>nn (wr (sv k z (r_fa fa47_3 k z z) fun a k=>sv k z (r_ldb t13 m 2 Aa 3 k z z z z z) fun a k=>sv k z (r_fa fa25_3 k z z) fun a k=>?_))))
 refine s_stb (cs':=[I a1.fW,I a1.fD,I a1.fH,I a1.fGram]) sizeOf3 m 0 Ab 3 k z z z z z z z z z z z fun Ai a k e m Ag=>nn (wr (sv k z (r_ldB ta25 m 0 Ag 0 k z z z z z z) fun a k=>s_stb (cs':=[I a1.fW,I a1.fD,I a1.fH,I a1.fGram]) sizeOf25 m 1 Ae 0 k z z z z z z z z z z z fun Aj a k e m Ad=>nn (wp_ret ?_)))
 cases h
 exact finR1 k z (RV.cA k z ta25 (Ad.at (m.a 1 z) 0 4 z z z) z) ⟨z,m.ext⟩
theorem c_laws_toPair (fu:Nat) {w0:World} (a1:Pair)  {r:Pair}
    (h:d_laws_toPair fu a1 = some r) :
    Calls Tryz.prog 176 #[.agg (Flat.e (a1)).toArray] w0 fun e w=>e = .returned (.agg (Flat.e r).toArray) ∧ Ext [] w0 w:=by
 refine enter (vs:=[_]) func176 z ntmps176 z fun a k=>?_
 have m:=St.start w0
 unfold d_laws_toPair at h
 refine wr (s_box (cs:=[I a1.fA,I a1.fB]) m k z z z z z z fun b2 w4 a k m e Aa=>s_alloc (cs:=[I 0,I 0]) m k zeroValue158 z z z z z fun b5 w7 a k m e Ad=>nn (wr (s_alloc (cs:=[I 0,I 0]) m k zeroValue158 z z z z z fun b8 Aj a k m e Af=>nn (wr (sv k z (r_fa fa173_0 k z z) fun a k=>sv k z (r_ldb t13 m 2 Aa 0 k z z z z z) fun a k=>sv k z (r_fa fa158_0 k z z) fun a k=>s_stb (cs':=[I a1.fA,I 0]) sizeOf3 m 0 Af 0 k z z z z z z z z z z z fun Ag a k e m Ac=>nn (wr (sv k z (r_fa fa173_1 k z z) fun a k=>sv k z (r_ldb t13 m 2 Aa 1 k z z z z z) fun a k=>sv k z (r_fa fa158_1 k z z) fun a k=>?_)))))))
 refine s_stb (cs':=[I a1.fA,I a1.fB]) sizeOf3 m 0 Ac 1 k z z z z z z z z z z z fun Ai a k e m Ae=>nn (wr (sv k z (r_ldB ta158 m 0 Ae 0 k z z z z z z) fun a k=>s_stb (cs':=[I a1.fA,I a1.fB]) sizeOf158 m 1 Ad 0 k z z z z z z z z z z z fun Ah a k e m Ab=>nn (wp_ret ?_)))
 cases h
 exact finR1 k z (RV.cA k z ta158 (Ab.at (m.a 1 z) 0 2 z z z) z) ⟨z,m.ext⟩
theorem c_laws_toPairS (fu:Nat) {w0:World} (a1:List Pair) {v2:Value} {F3:List Nat} (Aa:rd w0 F3 [v2] a1) {r:(List Pair)}
    (h:d_laws_toPairS fu a1 = some r) :
    Calls Tryz.prog 90 #[v2] w0 fun e w=>∃ (v0:Value) (G0:List Nat),e = .returned (v0) ∧ Ext [] w0 w ∧ ow w G0 [v0] r ∧ (∀ b ∈ G0,w0.heap.size ≤ b):=by
 refine enter (vs:=[_]) func90 z ntmps90 z fun a k=>?_
 have m:=St.start w0
 unfold d_laws_toPairS at h
 refine wr (pN 1 k z fun a k=>nn (wr (pN 1 k z fun a k=>sv k z (r_len (α:=Pair) Aa k underlying48 z z) fun a k=>oE h fun x5 Ao h=>s_mk Ao te26 z z m k z z z z z z fun g7 w9 a As k m e Am=>pN 1 k z fun a k=>nn (wp_seq (wr (pN 1 k z fun a k=>nn (wp_block (c_loop (fun n a w=>∃ (Ae:List Pair) (Ad:Value) (Ab:List Nat) (Ag:World) (Ac:Int),K 23 [(0,v2),(3,Ad),(4,I Ac)] a ∧ St [] w0 w [(Ab,Ag)] ∧ ow Ag Ab [Ad] Ae ∧ d_laws_toPairS_L1 fu a1 n Ae Ac = some r) ?_ ?_ fu _ _ ?_))))))))
 · rintro a w ⟨_,_,_,_,_,_,_,_,h⟩
   exact nS h
 · rintro Au a Av ⟨Ae,Ad,Ab,Ag,Ac,k,m,Af,h⟩
   rw [d_laws_toPairS_L1_s] at h
   unfold d_laws_toPairS_L1_B at h
   refine wp_seq (wr (pN 2 k z fun a k=>sv k z (r_len (α:=Pair) Aa k underlying48 z z) fun a k=>pN 1 k z fun a k=>nn (cI h k z (fun Al h=>?_) fun Al h=>?_)))
   · refine wp_skip (nm_then ?_)
     refine wp_seq (wp_block (wp_region_lit (pN 4 k z fun a k=>oE h fun Ap Ai h=>sv k z (r_ixa Aa Ai k ts48 z z z) fun a k=>sv k z (r_lde Aa (m.a00 (Enc.rd_lt Aa)) Ai ta173 k z z) fun a k=>oE h fun Ah Ak h=>cE k m call176 z z z (c_laws_toPair fu (Ap:Pair)  Ak) fun At e a k m=>oE h fun Aw Aj h=>sv k z (r_ixa (Enc.ow_rd Af) Aj k ts26 z z z) fun a k=>s_ste (α:=Pair) (sz:=2) (y:=Ah) sizeOf158 Aj m 0 Af 0 k z z z z z z z z z z z z fun Aq a k e m Ar=>wpList_nil (nm_block (nm_then ?_)))))
     refine wp_region_lit (pN 3 k z fun a k=>nn ?_)
     exact ⟨setx Ae Ac Ah,Ad,Ab,Aq,w64 (Ac + 1),k.keep [0,3,4] z,m.sel [0] z (by decide),Ar,h⟩
   refine wp_exit (ex_then (ex_then (ex_same (nm_then ?_))))
   refine wr (pN 2 k z fun a k=>nn (wp_ret ?_))
   cases h
   exact finR1 k z (RV.tmp k z) ⟨_,Ab,z,m.ext,(Enc.ow_agr Af (m.a 0 z)),(m.fresh 0 z)⟩
 exact ⟨x5,As,[g7],w9,0,k.keep [0,3,4] z,m.sel [0] z (by decide),Am,h⟩
theorem c_laws_toType (fu:Nat) {w0:World} (a1:Typ)  {r:Typ}
    (h:d_laws_toType fu a1 = some r) :
    Calls Tryz.prog 177 #[.agg (Flat.e (a1)).toArray] w0 fun e w=>e = .returned (.agg (Flat.e r).toArray) ∧ Ext [] w0 w:=by
 refine enter (vs:=[_]) func177 z ntmps177 z fun a k=>?_
 have m:=St.start w0
 unfold d_laws_toType at h
 refine wr (s_box (cs:=[I a1.fId,I a1.fW,I a1.fH,I a1.fD,I a1.fTare,I a1.fGram,I a1.fCost]) m k z z z z z z fun b2 w4 a k m e Aa=>s_alloc (cs:=[I 0,I 0,I 0,I 0,I 0,I 0,I 0]) m k zeroValue38 z z z z z fun b5 w7 a k m e Ad=>nn (wr (s_alloc (cs:=[I 0,I 0,I 0,I 0,I 0,I 0,I 0]) m k zeroValue38 z z z z z fun b8 Aq a k m e Ag=>nn (wr (sv k z (r_fa fa175_0 k z z) fun a k=>sv k z (r_ldb t13 m 2 Aa 0 k z z z z z) fun a k=>sv k z (r_fa fa38_0 k z z) fun a k=>?_)))))
 refine s_stb (cs':=[I a1.fId,I 0,I 0,I 0,I 0,I 0,I 0]) sizeOf3 m 0 Ag 0 k z z z z z z z z z z z fun Ao a k e m Ah=>nn (wr (sv k z (r_fa fa175_1 k z z) fun a k=>sv k z (r_ldb t13 m 2 Aa 1 k z z z z z) fun a k=>sv k z (r_fa fa38_1 k z z) fun a k=>s_stb (cs':=[I a1.fId,I a1.fW,I 0,I 0,I 0,I 0,I 0]) sizeOf3 m 0 Ah 1 k z z z z z z z z z z z fun As a k e m Ak=>nn (wr (sv k z (r_fa fa175_2 k z z) fun a k=>sv k z (r_ldb t13 m 2 Aa 2 k z z z z z) fun a k=>sv k z (r_fa fa38_2 k z z) fun a k=>?_))))
 refine s_stb (cs':=[I a1.fId,I a1.fW,I a1.fH,I 0,I 0,I 0,I 0]) sizeOf3 m 0 Ak 2 k z z z z z z z z z z z fun Ar a k e m Ab=>nn (wr (sv k z (r_fa fa175_3 k z z) fun a k=>sv k z (r_ldb t13 m 2 Aa 3 k z z z z z) fun a k=>sv k z (r_fa fa38_3 k z z) fun a k=>s_stb (cs':=[I a1.fId,I a1.fW,I a1.fH,I a1.fD,I 0,I 0,I 0]) sizeOf3 m 0 Ab 3 k z z z z z z z z z z z fun Au a k e m Ai=>nn (wr (sv k z (r_fa fa175_4 k z z) fun a k=>sv k z (r_ldb t13 m 2 Aa 4 k z z z z z) fun a k=>sv k z (r_fa fa38_4 k z z) fun a k=>?_))))
 refine s_stb (cs':=[I a1.fId,I a1.fW,I a1.fH,I a1.fD,I a1.fTare,I 0,I 0]) sizeOf3 m 0 Ai 4 k z z z z z z z z z z z fun At a k e m Ac=>nn (wr (sv k z (r_fa fa175_5 k z z) fun a k=>sv k z (r_ldb t13 m 2 Aa 5 k z z z z z) fun a k=>sv k z (r_fa fa38_5 k z z) fun a k=>s_stb (cs':=[I a1.fId,I a1.fW,I a1.fH,I a1.fD,I a1.fTare,I a1.fGram,I 0]) sizeOf3 m 0 Ac 5 k z z z z z z z z z z z fun Am a k e m Af=>?_))
 have k:=k.keep [1,2,3] z
 refine nn (wr (sv k z (r_fa fa175_6 k z z) fun a k=>sv k z (r_ldb t13 m 2 Aa 6 k z z z z z) fun a k=>sv k z (r_fa fa38_6 k z z) fun a k=>s_stb (cs':=[I a1.fId,I a1.fW,I a1.fH,I a1.fD,I a1.fTare,I a1.fGram,I a1.fCost]) sizeOf3 m 0 Af 6 k z z z z z z z z z z z fun Ap a k e m Aj=>nn (wr (sv k z (r_ldB ta38 m 0 Aj 0 k z z z z z z) fun a k=>s_stb (cs':=[I a1.fId,I a1.fW,I a1.fH,I a1.fD,I a1.fTare,I a1.fGram,I a1.fCost]) sizeOf38 m 1 Ad 0 k z z z z z z z z z z z fun Al a k e m Ae=>nn (wp_ret ?_)))))
 cases h
 exact finR1 k z (RV.cA k z ta38 (Ae.at (m.a 1 z) 0 7 z z z) z) ⟨z,m.ext⟩
theorem c_laws_toTypeS (fu:Nat) {w0:World} (a1:List Typ) {v2:Value} {F3:List Nat} (Aa:rd w0 F3 [v2] a1) {r:(List Typ)}
    (h:d_laws_toTypeS fu a1 = some r) :
    Calls Tryz.prog 91 #[v2] w0 fun e w=>∃ (v0:Value) (G0:List Nat),e = .returned (v0) ∧ Ext [] w0 w ∧ ow w G0 [v0] r ∧ (∀ b ∈ G0,w0.heap.size ≤ b):=by
 refine enter (vs:=[_]) func91 z ntmps91 z fun a k=>?_
 have m:=St.start w0
 unfold d_laws_toTypeS at h
 refine wr (pN 1 k z fun a k=>nn (wr (pN 1 k z fun a k=>sv k z (r_len (α:=Typ) Aa k underlying49 z z) fun a k=>oE h fun x5 Ao h=>s_mk Ao te27 z z m k z z z z z z fun g7 w9 a As k m e Am=>pN 1 k z fun a k=>nn (wp_seq (wr (pN 1 k z fun a k=>nn (wp_block (c_loop (fun n a w=>∃ (Ae:List Typ) (Ad:Value) (Ab:List Nat) (Ag:World) (Ac:Int),K 23 [(0,v2),(3,Ad),(4,I Ac)] a ∧ St [] w0 w [(Ab,Ag)] ∧ ow Ag Ab [Ad] Ae ∧ d_laws_toTypeS_L1 fu a1 n Ae Ac = some r) ?_ ?_ fu _ _ ?_))))))))
 · rintro a w ⟨_,_,_,_,_,_,_,_,h⟩
   exact nS h
 · rintro Au a Av ⟨Ae,Ad,Ab,Ag,Ac,k,m,Af,h⟩
   rw [d_laws_toTypeS_L1_s] at h
   unfold d_laws_toTypeS_L1_B at h
   refine wp_seq (wr (pN 2 k z fun a k=>sv k z (r_len (α:=Typ) Aa k underlying49 z z) fun a k=>pN 1 k z fun a k=>nn (cI h k z (fun Al h=>?_) fun Al h=>?_)))
   · refine wp_skip (nm_then ?_)
     refine wp_seq (wp_block (wp_region_lit (pN 4 k z fun a k=>oE h fun Ap Ai h=>sv k z (r_ixa Aa Ai k ts49 z z z) fun a k=>sv k z (r_lde Aa (m.a00 (Enc.rd_lt Aa)) Ai ta175 k z z) fun a k=>oE h fun Ah Ak h=>cE k m call177 z z z (c_laws_toType fu (Ap:Typ)  Ak) fun At e a k m=>oE h fun Aw Aj h=>sv k z (r_ixa (Enc.ow_rd Af) Aj k ts27 z z z) fun a k=>s_ste (α:=Typ) (sz:=7) (y:=Ah) sizeOf38 Aj m 0 Af 0 k z z z z z z z z z z z z fun Aq a k e m Ar=>wpList_nil (nm_block (nm_then ?_)))))
     refine wp_region_lit (pN 3 k z fun a k=>nn ?_)
     exact ⟨setx Ae Ac Ah,Ad,Ab,Aq,w64 (Ac + 1),k.keep [0,3,4] z,m.sel [0] z (by decide),Ar,h⟩
   refine wp_exit (ex_then (ex_then (ex_same (nm_then ?_))))
   refine wr (pN 2 k z fun a k=>nn (wp_ret ?_))
   cases h
   exact finR1 k z (RV.tmp k z) ⟨_,Ab,z,m.ext,(Enc.ow_agr Af (m.a 0 z)),(m.fresh 0 z)⟩
 exact ⟨x5,As,[g7],w9,0,k.keep [0,3,4] z,m.sel [0] z (by decide),Am,h⟩
theorem c_laws_toItem (fu:Nat) {w0:World} (a1:Item)  {r:Item}
    (h:d_laws_toItem fu a1 = some r) :
    Calls Tryz.prog 178 #[.agg (Flat.e (a1)).toArray] w0 fun e w=>e = .returned (.agg (Flat.e r).toArray) ∧ Ext [] w0 w:=by
 refine enter (vs:=[_]) func178 z ntmps178 z fun a k=>?_
 have m:=St.start w0
 unfold d_laws_toItem at h
 refine wr (s_box (cs:=[I a1.fId,I a1.fW,I a1.fH,I a1.fD,I a1.fGram,I a1.fClass,I a1.fCount]) m k z z z z z z fun b2 w4 a k m e Aa=>s_alloc (cs:=[I 0,I 0,I 0,I 0,I 0,I 0,I 0]) m k zeroValue97 z z z z z fun b5 w7 a k m e Ad=>nn (wr (s_alloc (cs:=[I 0,I 0,I 0,I 0,I 0,I 0,I 0]) m k zeroValue97 z z z z z fun b8 Aq a k m e Ag=>nn (wr (sv k z (r_fa fa177_0 k z z) fun a k=>sv k z (r_ldb t13 m 2 Aa 0 k z z z z z) fun a k=>sv k z (r_fa fa97_0 k z z) fun a k=>?_)))))
 refine s_stb (cs':=[I a1.fId,I 0,I 0,I 0,I 0,I 0,I 0]) sizeOf3 m 0 Ag 0 k z z z z z z z z z z z fun Ao a k e m Ah=>nn (wr (sv k z (r_fa fa177_1 k z z) fun a k=>sv k z (r_ldb t13 m 2 Aa 1 k z z z z z) fun a k=>sv k z (r_fa fa97_1 k z z) fun a k=>s_stb (cs':=[I a1.fId,I a1.fW,I 0,I 0,I 0,I 0,I 0]) sizeOf3 m 0 Ah 1 k z z z z z z z z z z z fun As a k e m Ak=>nn (wr (sv k z (r_fa fa177_2 k z z) fun a k=>sv k z (r_ldb t13 m 2 Aa 2 k z z z z z) fun a k=>sv k z (r_fa fa97_2 k z z) fun a k=>?_))))
 refine s_stb (cs':=[I a1.fId,I a1.fW,I a1.fH,I 0,I 0,I 0,I 0]) sizeOf3 m 0 Ak 2 k z z z z z z z z z z z fun Ar a k e m Ab=>nn (wr (sv k z (r_fa fa177_3 k z z) fun a k=>sv k z (r_ldb t13 m 2 Aa 3 k z z z z z) fun a k=>sv k z (r_fa fa97_3 k z z) fun a k=>s_stb (cs':=[I a1.fId,I a1.fW,I a1.fH,I a1.fD,I 0,I 0,I 0]) sizeOf3 m 0 Ab 3 k z z z z z z z z z z z fun Au a k e m Ai=>nn (wr (sv k z (r_fa fa177_4 k z z) fun a k=>sv k z (r_ldb t13 m 2 Aa 4 k z z z z z) fun a k=>sv k z (r_fa fa97_4 k z z) fun a k=>?_))))
 refine s_stb (cs':=[I a1.fId,I a1.fW,I a1.fH,I a1.fD,I a1.fGram,I 0,I 0]) sizeOf3 m 0 Ai 4 k z z z z z z z z z z z fun At a k e m Ac=>nn (wr (sv k z (r_fa fa177_5 k z z) fun a k=>sv k z (r_ldb t13 m 2 Aa 5 k z z z z z) fun a k=>sv k z (r_fa fa97_5 k z z) fun a k=>s_stb (cs':=[I a1.fId,I a1.fW,I a1.fH,I a1.fD,I a1.fGram,I a1.fClass,I 0]) sizeOf3 m 0 Ac 5 k z z z z z z z z z z z fun Am a k e m Af=>?_))
 have k:=k.keep [1,2,3] z
 refine nn (wr (sv k z (r_fa fa177_6 k z z) fun a k=>sv k z (r_ldb t13 m 2 Aa 6 k z z z z z) fun a k=>sv k z (r_fa fa97_6 k z z) fun a k=>s_stb (cs':=[I a1.fId,I a1.fW,I a1.fH,I a1.fD,I a1.fGram,I a1.fClass,I a1.fCount]) sizeOf3 m 0 Af 6 k z z z z z z z z z z z fun Ap a k e m Aj=>nn (wr (sv k z (r_ldB ta97 m 0 Aj 0 k z z z z z z) fun a k=>s_stb (cs':=[I a1.fId,I a1.fW,I a1.fH,I a1.fD,I a1.fGram,I a1.fClass,I a1.fCount]) sizeOf97 m 1 Ad 0 k z z z z z z z z z z z fun Al a k e m Ae=>nn (wp_ret ?_)))))
 cases h
 exact finR1 k z (RV.cA k z ta97 (Ae.at (m.a 1 z) 0 7 z z z) z) ⟨z,m.ext⟩
theorem c_laws_toItemS (fu:Nat) {w0:World} (a1:List Item) {v2:Value} {F3:List Nat} (Aa:rd w0 F3 [v2] a1) {r:(List Item)}
    (h:d_laws_toItemS fu a1 = some r) :
    Calls Tryz.prog 92 #[v2] w0 fun e w=>∃ (v0:Value) (G0:List Nat),e = .returned (v0) ∧ Ext [] w0 w ∧ ow w G0 [v0] r ∧ (∀ b ∈ G0,w0.heap.size ≤ b):=by
 refine enter (vs:=[_]) func92 z ntmps92 z fun a k=>?_
 have m:=St.start w0
 unfold d_laws_toItemS at h
 refine wr (pN 1 k z fun a k=>nn (wr (pN 1 k z fun a k=>sv k z (r_len (α:=Item) Aa k underlying50 z z) fun a k=>oE h fun x5 Ao h=>s_mk Ao te28 z z m k z z z z z z fun g7 w9 a As k m e Am=>pN 1 k z fun a k=>nn (wp_seq (wr (pN 1 k z fun a k=>nn (wp_block (c_loop (fun n a w=>∃ (Ae:List Item) (Ad:Value) (Ab:List Nat) (Ag:World) (Ac:Int),K 23 [(0,v2),(3,Ad),(4,I Ac)] a ∧ St [] w0 w [(Ab,Ag)] ∧ ow Ag Ab [Ad] Ae ∧ d_laws_toItemS_L1 fu a1 n Ae Ac = some r) ?_ ?_ fu _ _ ?_))))))))
 · rintro a w ⟨_,_,_,_,_,_,_,_,h⟩
   exact nS h
 · rintro Au a Av ⟨Ae,Ad,Ab,Ag,Ac,k,m,Af,h⟩
   rw [d_laws_toItemS_L1_s] at h
   unfold d_laws_toItemS_L1_B at h
   refine wp_seq (wr (pN 2 k z fun a k=>sv k z (r_len (α:=Item) Aa k underlying50 z z) fun a k=>pN 1 k z fun a k=>nn (cI h k z (fun Al h=>?_) fun Al h=>?_)))
   · refine wp_skip (nm_then ?_)
     refine wp_seq (wp_block (wp_region_lit (pN 4 k z fun a k=>oE h fun Ap Ai h=>sv k z (r_ixa Aa Ai k ts50 z z z) fun a k=>sv k z (r_lde Aa (m.a00 (Enc.rd_lt Aa)) Ai ta177 k z z) fun a k=>oE h fun Ah Ak h=>cE k m call178 z z z (c_laws_toItem fu (Ap:Item)  Ak) fun At e a k m=>oE h fun Aw Aj h=>sv k z (r_ixa (Enc.ow_rd Af) Aj k ts28 z z z) fun a k=>s_ste (α:=Item) (sz:=7) (y:=Ah) sizeOf97 Aj m 0 Af 0 k z z z z z z z z z z z z fun Aq a k e m Ar=>wpList_nil (nm_block (nm_then ?_)))))
     refine wp_region_lit (pN 3 k z fun a k=>nn ?_)
     exact ⟨setx Ae Ac Ah,Ad,Ab,Aq,w64 (Ac + 1),k.keep [0,3,4] z,m.sel [0] z (by decide),Ar,h⟩
   refine wp_exit (ex_then (ex_then (ex_same (nm_then ?_))))
   refine wr (pN 2 k z fun a k=>nn (wp_ret ?_))
   cases h
   exact finR1 k z (RV.tmp k z) ⟨_,Ab,z,m.ext,(Enc.ow_agr Af (m.a 0 z)),(m.fresh 0 z)⟩
 exact ⟨x5,As,[g7],w9,0,k.keep [0,3,4] z,m.sel [0] z (by decide),Am,h⟩
theorem c_laws_toRequest (fu:Nat) {w0:World} (a1:Request) {Ao:List Value} {F3:List Nat} (As:rd w0 F3 Ao a1) {r:Request}
    (h:d_laws_toRequest fu a1 = some r) :
    Calls Tryz.prog 26 #[.agg Ao.toArray] w0 fun e w=>∃ (Ap:List Value) (G0:List Nat),e = .returned (.agg Ap.toArray) ∧ Ext [] w0 w ∧ ow w G0 Ap r ∧ (∀ b ∈ G0,w0.heap.size ≤ b):=by
 refine enter (vs:=[_]) func26 z ntmps26 z fun a k=>?_
 have m:=St.start w0
 obtain ⟨v5,F6,v7,F8,v9,Bz,rfl,rfl,Aj,Am,Ah⟩:=As
 unfold d_laws_toRequest at h
 refine wr (s_box (cs:=[I a1.fWay,I a1.fPallet.fW,I a1.fPallet.fD,I a1.fPallet.fH,I a1.fPallet.fGram,I a1.fClasses,v5,v7,I a1.fMaster,v9]) m k z z z z z z fun Bv Ca a k m e Ab=>s_alloc (cs:=[I 0,I 0,I 0,I 0,I 0,I 0,.slice none 0 0,.slice none 0 0,I 0,.slice none 0 0]) m k zeroValue30 z z z z z fun Bw Ce a k m e Be=>nn (wr (s_alloc (cs:=[I 0,I 0,I 0,I 0,I 0,I 0,.slice none 0 0,.slice none 0 0,I 0,.slice none 0 0]) m k zeroValue30 z z z z z fun Cf Bx a k m e Bb=>nn (wr (sv k z (r_fa fa52_0 k z z) fun a k=>?_)))))
 refine sv k z (r_ldb t13 m 2 Ab 0 k z z z z z) fun a k=>sv k z (r_fa fa30_0 k z z) fun a k=>s_stb (cs':=[I a1.fWay,I 0,I 0,I 0,I 0,I 0,.slice none 0 0,.slice none 0 0,I 0,.slice none 0 0]) sizeOf3 m 0 Bb 0 k z z z z z z z z z z z fun Bl a k e m Bg=>nn (wr (sv k z (r_fa fa52_1 k z z) fun a k=>sv k z (r_ldB ta47 m 2 Ab 1 k z z z z z z) fun a k=>oE h fun Aa Ba h=>cE k m call89 z z z (c_laws_toPallet fu (a1.fPallet:Pallet)  Ba) fun Bp e a k m=>sv k z (r_fa fa30_1 k z z) fun a k=>?_))
 refine s_stb (cs':=[I a1.fWay,I Aa.fW,I Aa.fD,I Aa.fH,I Aa.fGram,I 0,.slice none 0 0,.slice none 0 0,I 0,.slice none 0 0]) sizeOf25 m 0 Bg 1 k z z z z z z z z z z z fun Cg a k e m Ay=>nn (wr (sv k z (r_fa fa52_2 k z z) fun a k=>sv k z (r_ldb t13 m 2 Ab 5 k z z z z z) fun a k=>sv k z (r_fa fa30_2 k z z) fun a k=>s_stb (cs':=[I a1.fWay,I Aa.fW,I Aa.fD,I Aa.fH,I Aa.fGram,I a1.fClasses,.slice none 0 0,.slice none 0 0,I 0,.slice none 0 0]) sizeOf3 m 0 Ay 5 k z z z z z z z z z z z fun Bn a k e m Bc=>nn (wr (sv k z (r_fa fa52_3 k z z) fun a k=>?_))))
 refine sv k z (r_ldb t148 m 2 Ab 6 k z z z z z) fun a k=>oE h fun Cb Bi h=>s_call k call90 z z z z z (c_laws_toPairS fu _ (Enc.rd_agr Aj (m.a00 (Enc.rd_lt Aj))) Bi) fun Bo Bu hR=>?_
 obtain ⟨Af,Aq,rfl,e,Ad,At⟩:=hR
 refine ⟨_,z,fun a k=>?_⟩
 have m:=m.new e Aq (fun b hb=>⟨At b hb,Enc.rd_lt (Enc.ow_rd Ad) b hb⟩) (Enc.ow_nd Ad)
 refine sv k z (r_fa fa30_3 k z z) fun a k=>s_stb1 (cs':=[I a1.fWay,I Aa.fW,I Aa.fD,I Aa.fH,I Aa.fGram,I a1.fClasses,Af,.slice none 0 0,I 0,.slice none 0 0]) sizeOf26 m 1 Bc 6 k (rd_c (Enc.ow_rd Ad)) (rd_o (Enc.ow_rd Ad)) z z z z z z z z z fun Br a k e m Av=>nn (wr (sv k z (r_fa fa52_4 k z z) fun a k=>sv k z (r_ldb t149 m 3 Ab 7 k z z z z z) fun a k=>oE h fun Cc Aw h=>s_call k call91 z z z z z (c_laws_toTypeS fu _ (Enc.rd_agr Am (m.a00 (Enc.rd_lt Am))) Aw) fun Bm Cd hR=>?_))
 obtain ⟨Ag,Ak,rfl,e,Ae,Ar⟩:=hR
 refine ⟨_,z,fun a k=>?_⟩
 have m:=m.new e Ak (fun b hb=>⟨Ar b hb,Enc.rd_lt (Enc.ow_rd Ae) b hb⟩) (Enc.ow_nd Ae)
 refine sv k z (r_fa fa30_4 k z z) fun a k=>s_stb1 (cs':=[I a1.fWay,I Aa.fW,I Aa.fD,I Aa.fH,I Aa.fGram,I a1.fClasses,Af,Ag,I 0,.slice none 0 0]) sizeOf27 m 2 Av 7 k (rd_c (Enc.ow_rd Ae)) (rd_o (Enc.ow_rd Ae)) z z z z z z z z z fun Bj a k e m Au=>nn (wr (sv k z (r_fa fa52_5 k z z) fun a k=>sv k z (r_ldb t13 m 4 Ab 8 k z z z z z) fun a k=>sv k z (r_fa fa30_5 k z z) fun a k=>s_stb (cs':=[I a1.fWay,I Aa.fW,I Aa.fD,I Aa.fH,I Aa.fGram,I a1.fClasses,Af,Ag,I a1.fMaster,.slice none 0 0]) sizeOf3 m 2 Au 8 k z z z z z z z z z z z fun Bq a k e m Az=>?_))
 have k:=k.keep [1,2,3] z
 refine nn (wr (sv k z (r_fa fa52_6 k z z) fun a k=>sv k z (r_ldb t150 m 4 Ab 9 k z z z z z) fun a k=>oE h fun By Bh h=>s_call k call92 z z z z z (c_laws_toItemS fu _ (Enc.rd_agr Ah (m.a00 (Enc.rd_lt Ah))) Bh) fun Bk Ch hR=>?_))
 obtain ⟨Ai,Al,rfl,e,Ac,Bf⟩:=hR
 refine ⟨_,z,fun a k=>?_⟩
 have m:=m.new e Al (fun b hb=>⟨Bf b hb,Enc.rd_lt (Enc.ow_rd Ac) b hb⟩) (Enc.ow_nd Ac)
 refine sv k z (r_fa fa30_6 k z z) fun a k=>s_stb1 (cs':=[I a1.fWay,I Aa.fW,I Aa.fD,I Aa.fH,I Aa.fGram,I a1.fClasses,Af,Ag,I a1.fMaster,Ai]) sizeOf28 m 3 Az 9 k (rd_c (Enc.ow_rd Ac)) (rd_o (Enc.ow_rd Ac)) z z z z z z z z z fun Bs a k e m Bd=>nn (wr (sv k z (r_ldB ta30 m 3 Bd 0 k z z z z z z) fun a k=>?_))
 refine s_stb (cs':=[I a1.fWay,I Aa.fW,I Aa.fD,I Aa.fH,I Aa.fGram,I a1.fClasses,Af,Ag,I a1.fMaster,Ai]) sizeOf30 m 4 Be 0 k z z z z z z z z z z (allc z (allc z (allc z (allc z (allc z (allc z (allc (rd_o (Enc.ow_rd Ad)) (allc (rd_o (Enc.ow_rd Ae)) (allc z (allc (rd_o (Enc.ow_rd Ac)) alln)))))))))) fun Bt a k e m Ax=>nn (wp_ret ?_)
 cases h
 exact finR1 k z (RV.cA k z ta30 (Ax.at (m.a 4 z) 0 10 z z z) z) ⟨_,_,z,m.ext,⟨_,Aq,_,Ak,_,Al,z,z,(Enc.ow_agr Ad (m.a 2 z)),(Enc.ow_agr Ae (m.a 1 z)),(Enc.ow_agr Ac (m.a 0 z)),by simpa [fps] using (m.sel [2,1,0] z (by decide)).nd⟩,(app_fresh (m.fresh 2 z) (app_fresh (m.fresh 1 z) (m.fresh 0 z)))⟩
theorem c_laws_toIntS (fu:Nat) {w0:World} (a1:List Int) {v2:Value} {F3:List Nat} (Aa:rd w0 F3 [v2] a1) {r:(List Int)}
    (h:d_laws_toIntS fu a1 = some r) :
    Calls Tryz.prog 52 #[v2] w0 fun e w=>∃ (v0:Value) (G0:List Nat),e = .returned (v0) ∧ Ext [] w0 w ∧ ow w G0 [v0] r ∧ (∀ b ∈ G0,w0.heap.size ≤ b):=by
 refine enter (vs:=[_]) func52 z ntmps52 z fun a k=>?_
 have m:=St.start w0
 unfold d_laws_toIntS at h
 refine wr (pN 1 k z fun a k=>nn (wr (pN 1 k z fun a k=>sv k z (r_len (α:=Int) Aa k underlying31 z z) fun a k=>oE h fun x5 Am h=>s_mk Am te31 z z m k z z z z z z fun g7 w9 a Ao k m e Al=>pN 1 k z fun a k=>nn (wp_seq (wr (pN 1 k z fun a k=>nn (wp_block (c_loop (fun n a w=>∃ (Ad:List Int) (Ae:Value) (Ab:List Nat) (Ag:World) (Ac:Int),K 22 [(0,v2),(3,Ae),(4,I Ac)] a ∧ St [] w0 w [(Ab,Ag)] ∧ ow Ag Ab [Ae] Ad ∧ d_laws_toIntS_L1 fu a1 n Ad Ac = some r) ?_ ?_ fu _ _ ?_))))))))
 · rintro a w ⟨_,_,_,_,_,_,_,_,h⟩
   exact nS h
 · rintro Ar a As ⟨Ad,Ae,Ab,Ag,Ac,k,m,Af,h⟩
   rw [d_laws_toIntS_L1_s] at h
   unfold d_laws_toIntS_L1_B at h
   refine wp_seq (wr (pN 2 k z fun a k=>sv k z (r_len (α:=Int) Aa k underlying31 z z) fun a k=>pN 1 k z fun a k=>nn (cI h k z (fun Ak h=>?_) fun Ak h=>?_)))
   · refine wp_skip (nm_then ?_)
     refine wp_seq (wp_block (wp_region_lit (pN 4 k z fun a k=>oE h fun Ah Ai h=>sv k z (r_ixa Aa Ai k ts31 z z z) fun a k=>sv k z (r_lde1 Aa (m.a00 (Enc.rd_lt Aa)) Ai 0 t13 k z z z z) fun a k=>oE h fun At Aj h=>sv k z (r_ixa (Enc.ow_rd Af) Aj k ts31 z z z) fun a k=>s_ste (α:=Int) (sz:=1) (y:=Ah) sizeOf3 Aj m 0 Af 0 k z z z z z z z z z z z z fun Aq a k e m Ap=>wpList_nil (nm_block (nm_then ?_)))))
     refine wp_region_lit (pN 3 k z fun a k=>nn ?_)
     exact ⟨setx Ad Ac Ah,Ae,Ab,Aq,w64 (Ac + 1),k.keep [0,3,4] z,m.sel [0] z (by decide),Ap,h⟩
   refine wp_exit (ex_then (ex_then (ex_same (nm_then ?_))))
   refine wr (pN 2 k z fun a k=>nn (wp_ret ?_))
   cases h
   exact finR1 k z (RV.tmp k z) ⟨_,Ab,z,m.ext,(Enc.ow_agr Af (m.a 0 z)),(m.fresh 0 z)⟩
 exact ⟨x5,Ao,[g7],w9,0,k.keep [0,3,4] z,m.sel [0] z (by decide),Al,h⟩
theorem c_laws_toCarton (fu:Nat) {w0:World} (a1:Carton) {Af:List Value} {F3:List Nat} (Ah:rd w0 F3 Af a1) {r:Carton}
    (h:d_laws_toCarton fu a1 = some r) :
    Calls Tryz.prog 208 #[.agg Af.toArray] w0 fun e w=>∃ (Ag:List Value) (G0:List Nat),e = .returned (.agg Ag.toArray) ∧ Ext [] w0 w ∧ ow w G0 Ag r ∧ (∀ b ∈ G0,w0.heap.size ≤ b):=by
 refine enter (vs:=[_]) func208 z ntmps208 z fun a k=>?_
 have m:=St.start w0
 obtain ⟨v5,_,rfl,rfl,Ad⟩:=Ah
 unfold d_laws_toCarton at h
 refine wr (s_box (cs:=[I a1.fType,I a1.fGroup,v5]) m k z z z z z z fun b7 w9 a k m e Ab=>s_alloc (cs:=[I 0,I 0,.slice none 0 0]) m k zeroValue33 z z z z z fun At Aw a k m e Ai=>nn (wr (s_alloc (cs:=[I 0,I 0,.slice none 0 0]) m k zeroValue33 z z z z z fun Ba Ay a k m e Aq=>nn (wr (sv k z (r_fa fa190_0 k z z) fun a k=>sv k z (r_ldb t13 m 2 Ab 0 k z z z z z) fun a k=>sv k z (r_fa fa33_0 k z z) fun a k=>s_stb (cs':=[I a1.fType,I 0,.slice none 0 0]) sizeOf3 m 0 Aq 0 k z z z z z z z z z z z fun Ax a k e m Ak=>nn (wr (sv k z (r_fa fa190_1 k z z) fun a k=>sv k z (r_ldb t13 m 2 Ab 1 k z z z z z) fun a k=>?_)))))))
 refine sv k z (r_fa fa33_1 k z z) fun a k=>s_stb (cs':=[I a1.fType,I a1.fGroup,.slice none 0 0]) sizeOf3 m 0 Ak 1 k z z z z z z z z z z z fun Az a k e m Al=>nn (wr (sv k z (r_fa fa190_2 k z z) fun a k=>sv k z (r_ldb t131 m 2 Ab 2 k z z z z z) fun a k=>oE h fun Av Am h=>s_call k call52 z z z z z (c_laws_toIntS fu _ (Enc.rd_agr Ad (m.a00 (Enc.rd_lt Ad))) Am) fun Ar As hR=>?_))
 obtain ⟨Ae,Ac,rfl,e,Aa,Aj⟩:=hR
 refine ⟨_,z,fun a k=>?_⟩
 have m:=m.new e Ac (fun b hb=>⟨Aj b hb,Enc.rd_lt (Enc.ow_rd Aa) b hb⟩) (Enc.ow_nd Aa)
 refine sv k z (r_fa fa33_2 k z z) fun a k=>s_stb1 (cs':=[I a1.fType,I a1.fGroup,Ae]) sizeOf31 m 1 Al 2 k (rd_c (Enc.ow_rd Aa)) (rd_o (Enc.ow_rd Aa)) z z z z z z z z z fun Bb a k e m Ao=>nn (wr (sv k z (r_ldB ta33 m 1 Ao 0 k z z z z z z) fun a k=>s_stb (cs':=[I a1.fType,I a1.fGroup,Ae]) sizeOf33 m 2 Ai 0 k z z z z z z z z z z (allc z (allc z (allc (rd_o (Enc.ow_rd Aa)) alln))) fun Au a k e m Ap=>nn (wp_ret ?_)))
 cases h
 exact finR1 k z (RV.cA k z ta33 (Ap.at (m.a 2 z) 0 3 z z z) z) ⟨_,_,z,m.ext,⟨_,Ac,z,z,(Enc.ow_agr Aa (m.a 0 z)),by simpa [fps] using (m.sel [0] z (by decide)).nd⟩,(m.fresh 0 z)⟩
theorem c_laws_toCartonS (fu:Nat) {w0:World} (a1:List Carton) {v2:Value} {F3:List Nat} (Ab:rd w0 F3 [v2] a1) {r:(List Carton)}
    (h:d_laws_toCartonS fu a1 = some r) :
    Calls Tryz.prog 118 #[v2] w0 fun e w=>∃ (v0:Value) (G0:List Nat),e = .returned (v0) ∧ Ext [] w0 w ∧ ow w G0 [v0] r ∧ (∀ b ∈ G0,w0.heap.size ≤ b):=by
 refine enter (vs:=[_]) func118 z ntmps118 z fun a k=>?_
 have m:=St.start w0
 unfold d_laws_toCartonS at h
 refine wr (pN 1 k z fun a k=>nn (wr (pN 1 k z fun a k=>sv k z (r_len (α:=Carton) Ab k underlying66 z z) fun a k=>oE h fun x5 Be h=>s_mkN Be te43 (fun w=>⟨.slice none 0 0,[],z,z,ow_nil _,by simp⟩) z m k z z z z z z fun g7 w9 a Bh k m e Bd=>pN 1 k z fun a k=>nn (wp_seq (wr (pN 1 k z fun a k=>nn (wp_block (c_loop (fun n a w=>∃ (Ad:List Carton) (Ag:Value) (Af:List Nat) (Ah:World) (Ac:Int),K 23 [(0,v2),(3,Ag),(4,I Ac)] a ∧ St [] w0 w [(Af,Ah)] ∧ ow Ah Af [Ag] Ad ∧ d_laws_toCartonS_L1 fu a1 n Ad Ac = some r) ?_ ?_ fu _ _ ?_))))))))
 · rintro a w ⟨_,_,_,_,_,_,_,_,h⟩
   exact nS h
 · rintro Bt a Bs ⟨Ad,Ag,Af,Ah,Ac,k,m,Ae,h⟩
   rw [d_laws_toCartonS_L1_s] at h
   unfold d_laws_toCartonS_L1_B at h
   refine wp_seq (wr (pN 2 k z fun a k=>sv k z (r_len (α:=Carton) Ab k underlying66 z z) fun a k=>pN 1 k z fun a k=>nn (cI h k z (fun Aw h=>?_) fun Aw h=>?_)))
   · refine wp_skip (nm_then ?_)
     refine wp_seq (wp_block (wp_region_lit (pN 4 k z fun a k=>oE h fun Ai Aq h=>sv k z (r_ixa Ab Aq k ts66 z z z) fun a k=>?_)))
     obtain ⟨Cb,Bw,Bn,Bb,Ay,Bk⟩:=rd_get Ab (ix_some Aq).2.2
     obtain ⟨Bm,_,rfl,rfl,Am⟩:=Bb
     refine sv k z (r_ldA ta190 (Ay.agr (m.a00 (Enc.rd_lt Ab)) Bk) z k z z) fun a k=>oE h fun Aa As h=>s_call k call208 z z z z z (c_laws_toCarton fu _ (show rd _ _ [I Ai.fType,I Ai.fGroup,Bm] (Ai:Carton) from ⟨_,_,z,z,(Enc.rd_agr Am (m.a00 (Enc.rd_lt Am)))⟩) As) fun Br Ar hR=>?_
     obtain ⟨Bu,Al,rfl,e,Ak,Bi⟩:=hR
     refine ⟨_,z,fun a k=>?_⟩
     have m:=m.new e Al (fun b hb=>⟨Bi b hb,Enc.rd_lt (Enc.ow_rd Ak) b hb⟩) (Enc.ow_nd Ak)
     obtain ⟨Ap,_,rfl,rfl,Ao,_⟩:=Ak
     refine oE h fun Ca Aj h=>sv k z (r_ixa (Enc.ow_rd Ae) Aj k ts43 z z z) fun a k=>?_
     obtain ⟨Bz,Bq,By,Av,Ax,Bv⟩:=rd_get (Enc.ow_rd Ae) (ix_some Aj).2.2
     obtain ⟨Bc,_,rfl,rfl,Cc⟩:=Av
     obtain ⟨Bo,Bp,m,At,Bj⟩:=m.opn 1 z Ae Aj Ax z (M':=[(Al,Ar)]) z
     obtain ⟨Ba,_,Az,rfl,Bx,_⟩:=Bj
     obtain rfl:Bc = Ba:=by simpa using Az
     refine s_stH (α:=Carton) (sz:=3) (cs':=[I Aa.fType,I Aa.fGroup,Ap]) sizeOf33 m 0 At 0 k z z z z z z z z z (allc z (allc z (allc (rd_o (Enc.ow_rd Ao)) alln))) z z fun Au a k e m Bf=>?_
     obtain ⟨Bl,m,Bg⟩:=(m.sel [0,2] z (by decide)).cls Bf (show ow Ar Al [I Aa.fType,I Aa.fGroup,Ap] (Aa:Carton) from ⟨_,_,z,z,Ao,(m.ndF 2 z)⟩)
     refine wpList_nil (nm_block (nm_then ?_))
     refine wp_region_lit (pN 3 k z fun a k=>nn ?_)
     exact ⟨setx Ad Ac Aa,Ag,Bl,Au,w64 (Ac + 1),k.keep [0,3,4] z,m.sel [0] z (by decide),Bg,h⟩
   refine wp_exit (ex_then (ex_then (ex_same (nm_then ?_))))
   refine wr (pN 2 k z fun a k=>nn (wp_ret ?_))
   cases h
   exact finR1 k z (RV.tmp k z) ⟨_,Af,z,m.ext,(Enc.ow_agr Ae (m.a 0 z)),(m.fresh 0 z)⟩
 exact ⟨x5,Bh,[g7],w9,0,k.keep [0,3,4] z,m.sel [0] z (by decide),Bd,h⟩
theorem c_laws_toSpot (fu:Nat) {w0:World} (a1:Spot)  {r:Spot}
    (h:d_laws_toSpot fu a1 = some r) :
    Calls Tryz.prog 209 #[.agg (Flat.e (a1)).toArray] w0 fun e w=>e = .returned (.agg (Flat.e r).toArray) ∧ Ext [] w0 w:=by
 refine enter (vs:=[_]) func209 z ntmps209 z fun a k=>?_
 have m:=St.start w0
 unfold d_laws_toSpot at h
 refine wr (s_box (cs:=[I a1.fPallet,I a1.fX,I a1.fY,I a1.fZ]) m k z z z z z z fun b2 w4 a k m e Aa=>s_alloc (cs:=[I 0,I 0,I 0,I 0]) m k zeroValue139 z z z z z fun b5 w7 a k m e Ae=>nn (wr (s_alloc (cs:=[I 0,I 0,I 0,I 0]) m k zeroValue139 z z z z z fun b8 Ao a k m e Ah=>nn (wr (sv k z (r_fa fa196_0 k z z) fun a k=>sv k z (r_ldb t13 m 2 Aa 0 k z z z z z) fun a k=>sv k z (r_fa fa139_0 k z z) fun a k=>s_stb (cs':=[I a1.fPallet,I 0,I 0,I 0]) sizeOf3 m 0 Ah 0 k z z z z z z z z z z z fun Ak a k e m Ac=>nn (wr (sv k z (r_fa fa196_1 k z z) fun a k=>?_)))))))
 refine sv k z (r_ldb t13 m 2 Aa 1 k z z z z z) fun a k=>sv k z (r_fa fa139_1 k z z) fun a k=>s_stb (cs':=[I a1.fPallet,I a1.fX,I 0,I 0]) sizeOf3 m 0 Ac 1 k z z z z z z z z z z z fun Am a k e m Af=>nn (wr (sv k z (r_fa fa196_2 k z z) fun a k=>sv k z (r_ldb t13 m 2 Aa 2 k z z z z z) fun a k=>sv k z (r_fa fa139_2 k z z) fun a k=>s_stb (cs':=[I a1.fPallet,I a1.fX,I a1.fY,I 0]) sizeOf3 m 0 Af 2 k z z z z z z z z z z z fun Al a k e m Ab=>nn (wr (sv k z (r_fa fa196_3 k z z) fun a k=>sv k z (r_ldb t13 m 2 Aa 3 k z z z z z) fun a k=>sv k z (r_fa fa139_3 k z z) fun a k=>?_))))
 refine s_stb (cs':=[I a1.fPallet,I a1.fX,I a1.fY,I a1.fZ]) sizeOf3 m 0 Ab 3 k z z z z z z z z z z z fun Ai a k e m Ag=>nn (wr (sv k z (r_ldB ta139 m 0 Ag 0 k z z z z z z) fun a k=>s_stb (cs':=[I a1.fPallet,I a1.fX,I a1.fY,I a1.fZ]) sizeOf139 m 1 Ae 0 k z z z z z z z z z z z fun Aj a k e m Ad=>nn (wp_ret ?_)))
 cases h
 exact finR1 k z (RV.cA k z ta139 (Ad.at (m.a 1 z) 0 4 z z z) z) ⟨z,m.ext⟩
theorem c_laws_toSpotS (fu:Nat) {w0:World} (a1:List Spot) {v2:Value} {F3:List Nat} (Aa:rd w0 F3 [v2] a1) {r:(List Spot)}
    (h:d_laws_toSpotS fu a1 = some r) :
    Calls Tryz.prog 119 #[v2] w0 fun e w=>∃ (v0:Value) (G0:List Nat),e = .returned (v0) ∧ Ext [] w0 w ∧ ow w G0 [v0] r ∧ (∀ b ∈ G0,w0.heap.size ≤ b):=by
 refine enter (vs:=[_]) func119 z ntmps119 z fun a k=>?_
 have m:=St.start w0
 unfold d_laws_toSpotS at h
 refine wr (pN 1 k z fun a k=>nn (wr (pN 1 k z fun a k=>sv k z (r_len (α:=Spot) Aa k underlying67 z z) fun a k=>oE h fun x5 Ao h=>s_mk Ao te72 z z m k z z z z z z fun g7 w9 a As k m e Am=>pN 1 k z fun a k=>nn (wp_seq (wr (pN 1 k z fun a k=>nn (wp_block (c_loop (fun n a w=>∃ (Ae:List Spot) (Ad:Value) (Ab:List Nat) (Ag:World) (Ac:Int),K 23 [(0,v2),(3,Ad),(4,I Ac)] a ∧ St [] w0 w [(Ab,Ag)] ∧ ow Ag Ab [Ad] Ae ∧ d_laws_toSpotS_L1 fu a1 n Ae Ac = some r) ?_ ?_ fu _ _ ?_))))))))
 · rintro a w ⟨_,_,_,_,_,_,_,_,h⟩
   exact nS h
 · rintro Au a Av ⟨Ae,Ad,Ab,Ag,Ac,k,m,Af,h⟩
   rw [d_laws_toSpotS_L1_s] at h
   unfold d_laws_toSpotS_L1_B at h
   refine wp_seq (wr (pN 2 k z fun a k=>sv k z (r_len (α:=Spot) Aa k underlying67 z z) fun a k=>pN 1 k z fun a k=>nn (cI h k z (fun Al h=>?_) fun Al h=>?_)))
   · refine wp_skip (nm_then ?_)
     refine wp_seq (wp_block (wp_region_lit (pN 4 k z fun a k=>oE h fun Ap Ai h=>sv k z (r_ixa Aa Ai k ts67 z z z) fun a k=>sv k z (r_lde Aa (m.a00 (Enc.rd_lt Aa)) Ai ta196 k z z) fun a k=>oE h fun Ah Ak h=>cE k m call209 z z z (c_laws_toSpot fu (Ap:Spot)  Ak) fun At e a k m=>oE h fun Aw Aj h=>sv k z (r_ixa (Enc.ow_rd Af) Aj k ts72 z z z) fun a k=>s_ste (α:=Spot) (sz:=4) (y:=Ah) sizeOf139 Aj m 0 Af 0 k z z z z z z z z z z z z fun Aq a k e m Ar=>wpList_nil (nm_block (nm_then ?_)))))
     refine wp_region_lit (pN 3 k z fun a k=>nn ?_)
     exact ⟨setx Ae Ac Ah,Ad,Ab,Aq,w64 (Ac + 1),k.keep [0,3,4] z,m.sel [0] z (by decide),Ar,h⟩
   refine wp_exit (ex_then (ex_then (ex_same (nm_then ?_))))
   refine wr (pN 2 k z fun a k=>nn (wp_ret ?_))
   cases h
   exact finR1 k z (RV.tmp k z) ⟨_,Ab,z,m.ext,(Enc.ow_agr Af (m.a 0 z)),(m.fresh 0 z)⟩
 exact ⟨x5,As,[g7],w9,0,k.keep [0,3,4] z,m.sel [0] z (by decide),Am,h⟩
theorem c_laws_toPlan (fu:Nat) {w0:World} (a1:Plan) {Ah:List Value} {F3:List Nat} (Am:rd w0 F3 Ah a1) {r:Plan}
    (h:d_laws_toPlan fu a1 = some r) :
    Calls Tryz.prog 40 #[.agg Ah.toArray] w0 fun e w=>∃ (Ai:List Value) (G0:List Nat),e = .returned (.agg Ai.toArray) ∧ Ext [] w0 w ∧ ow w G0 Ai r ∧ (∀ b ∈ G0,w0.heap.size ≤ b):=by
 refine enter (vs:=[_]) func40 z ntmps40 z fun a k=>?_
 have m:=St.start w0
 obtain ⟨v5,F6,v7,F8,rfl,rfl,Ak,Af⟩:=Am
 unfold d_laws_toPlan at h
 refine wr (s_box (cs:=[v5,v7]) m k z z z z z z fun Ba Bi a k m e Ag=>s_alloc (cs:=[.slice none 0 0,.slice none 0 0]) m k zeroValue74 z z z z z fun Be Bh a k m e Aq=>nn (wr (s_alloc (cs:=[.slice none 0 0,.slice none 0 0]) m k zeroValue74 z z z z z fun Bf Bj a k m e At=>nn (wr (sv k z (r_fa fa69_0 k z z) fun a k=>sv k z (r_ldb t166 m 2 Ag 0 k z z z z z) fun a k=>oE h fun Bc Ar h=>s_call k call118 z z z z z (c_laws_toCartonS fu _ (Enc.rd_agr Ak (m.a00 (Enc.rd_lt Ak))) Ar) fun Aw Ax hR=>?_)))))
 obtain ⟨Ac,Ae,rfl,e,Ab,Ao⟩:=hR
 refine ⟨_,z,fun a k=>?_⟩
 have m:=m.new e Ae (fun b hb=>⟨Ao b hb,Enc.rd_lt (Enc.ow_rd Ab) b hb⟩) (Enc.ow_nd Ab)
 refine sv k z (r_fa fa74_0 k z z) fun a k=>s_stb1 (cs':=[Ac,.slice none 0 0]) sizeOf43 m 1 At 0 k (rd_c (Enc.ow_rd Ab)) (rd_o (Enc.ow_rd Ab)) z z z z z z z z z fun Bk a k e m As=>nn (wr (sv k z (r_fa fa69_1 k z z) fun a k=>sv k z (r_ldb t167 m 3 Ag 1 k z z z z z) fun a k=>oE h fun Bd Au h=>s_call k call119 z z z z z (c_laws_toSpotS fu _ (Enc.rd_agr Af (m.a00 (Enc.rd_lt Af))) Au) fun Bb Ay hR=>?_))
 obtain ⟨Aj,Ad,rfl,e,Aa,Al⟩:=hR
 refine ⟨_,z,fun a k=>?_⟩
 have m:=m.new e Ad (fun b hb=>⟨Al b hb,Enc.rd_lt (Enc.ow_rd Aa) b hb⟩) (Enc.ow_nd Aa)
 refine sv k z (r_fa fa74_1 k z z) fun a k=>s_stb1 (cs':=[Ac,Aj]) sizeOf72 m 2 As 1 k (rd_c (Enc.ow_rd Aa)) (rd_o (Enc.ow_rd Aa)) z z z z z z z z z fun Bg a k e m Av=>nn (wr (sv k z (r_ldB ta74 m 2 Av 0 k z z z z z z) fun a k=>s_stb (cs':=[Ac,Aj]) sizeOf74 m 3 Aq 0 k z z z z z z z z z z (allc (rd_o (Enc.ow_rd Ab)) (allc (rd_o (Enc.ow_rd Aa)) alln)) fun Az a k e m Ap=>nn (wp_ret ?_)))
 cases h
 exact finR1 k z (RV.cA k z ta74 (Ap.at (m.a 3 z) 0 2 z z z) z) ⟨_,_,z,m.ext,⟨_,Ae,_,Ad,z,z,(Enc.ow_agr Ab (m.a 1 z)),(Enc.ow_agr Aa (m.a 0 z)),by simpa [fps] using (m.sel [1,0] z (by decide)).nd⟩,(app_fresh (m.fresh 1 z) (m.fresh 0 z))⟩
theorem c_laws_eqIntS (fu:Nat) {w0:World} (a1:List Int) (b5:List Int) {v2:Value} {F3:List Nat} (Aa:rd w0 F3 [v2] a1) {v6:Value} {F7:List Nat} (Ac:rd w0 F7 [v6] b5) {r:Bool}
    (h:d_laws_eqIntS fu a1 b5 = some r) :
    Calls Tryz.prog 54 #[v2,v6] w0 fun e w=>e = .returned (.bool (r)) ∧ Ext [] w0 w:=by
 refine enter (vs:=[_,_]) func54 z ntmps54 z fun a k=>?_
 have m:=St.start w0
 unfold d_laws_eqIntS at h
 refine wr (pN 1 k z fun a k=>nn (wp_seq (wr (pN 1 k z fun a k=>sv k z (r_len (α:=Int) Aa k underlying31 z z) fun a k=>pN 1 k z fun a k=>sv k z (r_len (α:=Int) Ac k underlying31 z z) fun a k=>pN 1 k z fun a k=>nn (cI h k z (fun Ai h=>?_) fun Ai h=>?_)))))
 · refine wr (pN 1 k z fun a k=>nn (wp_ret (rt_then ?_)))
   refine fS h k m z z
 refine wp_skip (nm_then ?_)
 refine wp_seq (wr (pN 1 k z fun a k=>nn (wp_block (c_loop (fun n a w=>∃ (Ab:Int),K 26 [(0,v2),(1,v6),(5,I Ab)] a ∧ St [] w0 w [] ∧ d_laws_eqIntS_L1 fu a1 b5 n Ab = some r) ?_ ?_ fu _ _ ?_))))
 · rintro a w ⟨_,_,_,h⟩
   exact nS h
 · rintro Ak a Al ⟨Ab,k,m,h⟩
   rw [d_laws_eqIntS_L1_s] at h
   unfold d_laws_eqIntS_L1_B at h
   refine wp_seq (wr (pN 2 k z fun a k=>sv k z (r_len (α:=Int) Aa k underlying31 z z) fun a k=>pN 1 k z fun a k=>nn (cI h k z (fun Ag h=>?_) fun Ag h=>?_)))
   · refine wp_skip (nm_then ?_)
     refine wp_seq (wp_block (wp_seq (d_go [] mixo m z fun Af hMd=>?_)))
     have m:=hMd
     have s:=Ext.refl ([]:List Nat) Af
     refine dN [0,1,4,5] 4 z k (by kernel_rfl) z s (fun _ _ _ _ _=>id) fun a k=>oE h fun Aj Ad h=>dt k 2 z (by kernel_rfl) z s (fun _ _ _=>id) (fun w s=>r_ixa Aa Ad k ts31 z z z) fun a k=>dt k 3 z (by kernel_rfl) z s (fun _ _ _=>id) (fun w s=>r_lde1 Aa ((hMd.step s).a00 (Enc.rd_lt Aa)) Ad 0 t13 k z z z z) fun a k=>oE h fun Am Ae h=>dt k 6 z (by kernel_rfl) z s (fun _ _ _=>id) (fun w s=>r_ixa Ac Ae k ts31 z z z) fun a k=>dt k 7 z (by kernel_rfl) z s (fun _ _ _=>id) (fun w s=>r_lde1 Ac ((hMd.step s).a00 (Enc.rd_lt Ac)) Ae 0 t13 k z z z z) fun a k=>dN [8] 1 z k (by kernel_rfl) z s (fun _ _ _ _ _=>id) fun a k=>d_done (by kernel_rfl) ((nm_then ?_))
     refine cI h k z (fun Ah h=>?_) fun Ah h=>?_
     · refine wr (pN 1 k z fun a k=>nn (wp_ret (rt_block (rt_then (rt_then (rt_block (rt_then ?_)))))))
       refine fS h k m z z
     refine wp_skip (nm_block (nm_then ?_))
     refine wp_region_lit (pN 3 k z fun a k=>nn ?_)
     exact ⟨w64 (Ab + 1),k.keep [0,1,5] z,m.sel [] z (by decide),h⟩
   refine wp_exit (ex_then (ex_then (ex_same (nm_then ?_))))
   refine wr (pN 1 k z fun a k=>nn (wp_ret (fS h k m z z)))
 exact ⟨0,k.keep [0,1,5] z,m.sel [] z (by decide),h⟩
theorem c_laws_eqCarton (fu:Nat) {w0:World} (a1:Carton) (b5:Carton) {Af:List Value} {F3:List Nat} (Ah:rd w0 F3 Af a1) {Ac:List Value} {F7:List Nat} (Aj:rd w0 F7 Ac b5) {r:Bool}
    (h:d_laws_eqCarton fu a1 b5 = some r) :
    Calls Tryz.prog 222 #[.agg Af.toArray,.agg Ac.toArray] w0 fun e w=>e = .returned (.bool (r)) ∧ Ext [] w0 w:=by
 refine enter (vs:=[_,_]) func222 z ntmps222 z fun a k=>?_
 have m:=St.start w0
 obtain ⟨v9,_,rfl,rfl,Ad⟩:=Ah
 obtain ⟨Am,_,rfl,rfl,Ae⟩:=Aj
 unfold d_laws_eqCarton at h
 refine wr (s_box (cs:=[I a1.fType,I a1.fGroup,v9]) m k z z z z z z fun At Ar a k m e Ab=>s_box (cs:=[I b5.fType,I b5.fGroup,Am]) m k z z z z z z fun Ap As a k m e Aa=>pN 1 k z fun a k=>nn (wp_seq (wr (sv k z (r_fa fa33_0 k z z) fun a k=>sv k z (r_ldb t13 m 1 Ab 0 k z z z z z) fun a k=>sv k z (r_fa fa33_0 k z z) fun a k=>sv k z (r_ldb t13 m 0 Aa 0 k z z z z z) fun a k=>pN 1 k z fun a k=>nn (cI h k z (fun Ai h=>?_) fun Ai h=>?_)))))
 · refine wr (pN 1 k z fun a k=>nn (wp_ret (rt_then ?_)))
   refine fS h k m z z
 refine wp_skip (nm_then ?_)
 refine wp_seq (wr (sv k z (r_fa fa33_1 k z z) fun a k=>sv k z (r_ldb t13 m 1 Ab 1 k z z z z z) fun a k=>sv k z (r_fa fa33_1 k z z) fun a k=>sv k z (r_ldb t13 m 0 Aa 1 k z z z z z) fun a k=>pN 1 k z fun a k=>nn (cI h k z (fun Ag h=>?_) fun Ag h=>?_)))
 · refine wr (pN 1 k z fun a k=>nn (wp_ret (rt_then ?_)))
   refine fS h k m z z
 refine wp_skip (nm_then ?_)
 refine wp_seq (wr (sv k z (r_fa fa33_2 k z z) fun a k=>sv k z (r_ldb t131 m 1 Ab 2 k z z z z z) fun a k=>sv k z (r_fa fa33_2 k z z) fun a k=>sv k z (r_ldb t131 m 0 Aa 2 k z z z z z) fun a k=>oE h fun Ao Al h=>cE k m call54 z z z (c_laws_eqIntS fu _ _ (Enc.rd_agr Ad (m.a00 (Enc.rd_lt Ad))) (Enc.rd_agr Ae (m.a00 (Enc.rd_lt Ae))) Al) fun Aq e a k m=>pN 1 k z fun a k=>nn (cI h k z (fun Ak h=>?_) fun Ak h=>?_)))
 · refine wr (pN 1 k z fun a k=>nn (wp_ret (rt_then ?_)))
   refine fS h k m z z
 refine wp_skip (nm_then ?_)
 refine wr (pN 1 k z fun a k=>nn (wp_ret (fS h k m z z)))
theorem c_laws_eqCartonS (fu:Nat) {w0:World} (a1:List Carton) (b5:List Carton) {v2:Value} {F3:List Nat} (Aa:rd w0 F3 [v2] a1) {v6:Value} {F7:List Nat} (Ac:rd w0 F7 [v6] b5) {r:Bool}
    (h:d_laws_eqCartonS fu a1 b5 = some r) :
    Calls Tryz.prog 130 #[v2,v6] w0 fun e w=>e = .returned (.bool (r)) ∧ Ext [] w0 w:=by
 refine enter (vs:=[_,_]) func130 z ntmps130 z fun a k=>?_
 have m:=St.start w0
 unfold d_laws_eqCartonS at h
 refine wr (pN 1 k z fun a k=>nn (wp_seq (wr (pN 1 k z fun a k=>sv k z (r_len (α:=Carton) Aa k underlying43 z z) fun a k=>pN 1 k z fun a k=>sv k z (r_len (α:=Carton) Ac k underlying43 z z) fun a k=>pN 1 k z fun a k=>nn (cI h k z (fun Ao h=>?_) fun Ao h=>?_)))))
 · refine wr (pN 1 k z fun a k=>nn (wp_ret (rt_then ?_)))
   refine fS h k m z z
 refine wp_skip (nm_then ?_)
 refine wp_seq (wr (pN 1 k z fun a k=>nn (wp_block (c_loop (fun n a w=>∃ (Ab:Int),K 27 [(0,v2),(1,v6),(5,I Ab)] a ∧ St [] w0 w [] ∧ d_laws_eqCartonS_L1 fu a1 b5 n Ab = some r) ?_ ?_ fu _ _ ?_))))
 · rintro a w ⟨_,_,_,h⟩
   exact nS h
 · rintro Ax a Bd ⟨Ab,k,m,h⟩
   rw [d_laws_eqCartonS_L1_s] at h
   unfold d_laws_eqCartonS_L1_B at h
   refine wp_seq (wr (pN 2 k z fun a k=>sv k z (r_len (α:=Carton) Aa k underlying43 z z) fun a k=>pN 1 k z fun a k=>nn (cI h k z (fun At h=>?_) fun At h=>?_)))
   · refine wp_skip (nm_then ?_)
     refine wp_seq (wp_block (wp_seq (d_go [] mixo m z fun Av hMd=>?_)))
     have m:=hMd
     have s:=Ext.refl ([]:List Nat) Av
     refine dN [0,1,4,5] 4 z k (by kernel_rfl) z s (fun _ _ _ _ _=>id) fun a k=>oE h fun Ae Ag h=>dt k 2 z (by kernel_rfl) z s (fun _ _ _=>id) (fun w s=>r_ixa Aa Ag k ts43 z z z) fun a k=>?_
     obtain ⟨Bc,Be,Ay,Aw,Aj,Ap⟩:=rd_get Aa (ix_some Ag).2.2
     obtain ⟨Al,_,rfl,rfl,Ai⟩:=Aw
     refine dt k 3 z (by kernel_rfl) z s (fun _ _ _=>id) (fun w s=>r_ldA ta33 (Aj.agr ((hMd.step s).a00 (Enc.rd_lt Aa)) Ap) z k z z) fun a k=>oE h fun Ad Af h=>dt k 6 z (by kernel_rfl) z s (fun _ _ _=>id) (fun w s=>r_ixa Ac Af k ts43 z z z) fun a k=>?_
     obtain ⟨Az,Bf,Bg,Ak,Aq,Au⟩:=rd_get Ac (ix_some Af).2.2
     obtain ⟨Am,_,rfl,rfl,Ah⟩:=Ak
     refine dt k 7 z (by kernel_rfl) z s (fun _ _ _=>id) (fun w s=>r_ldA ta33 (Aq.agr ((hMd.step s).a00 (Enc.rd_lt Ac)) Au) z k z z) fun a k=>d_one 8 (by kernel_rfl) z (oE h fun Ba Ar h=>cE k m call222 z z z (c_laws_eqCarton fu _ _ (show rd _ _ [I Ae.fType,I Ae.fGroup,Al] (Ae:Carton) from ⟨_,_,z,z,(Enc.rd_agr Ai (m.a00 (Enc.rd_lt Ai)))⟩) (show rd _ _ [I Ad.fType,I Ad.fGroup,Am] (Ad:Carton) from ⟨_,_,z,z,(Enc.rd_agr Ah (m.a00 (Enc.rd_lt Ah)))⟩) Ar) fun Bb e a k m=>?_)
     have s:=s.trans e (by simp)
     refine wpList_nil ⟨s,?_⟩
     refine dN [9] 1 z k (by kernel_rfl) z s (fun _ _ _ _ _=>id) fun a k=>d_done (by kernel_rfl) ((nm_then ?_))
     refine cI h k z (fun As h=>?_) fun As h=>?_
     · refine wr (pN 1 k z fun a k=>nn (wp_ret (rt_block (rt_then (rt_then (rt_block (rt_then ?_)))))))
       refine fS h k m z z
     refine wp_skip (nm_block (nm_then ?_))
     refine wp_region_lit (pN 3 k z fun a k=>nn ?_)
     exact ⟨w64 (Ab + 1),k.keep [0,1,5] z,m.sel [] z (by decide),h⟩
   refine wp_exit (ex_then (ex_then (ex_same (nm_then ?_))))
   refine wr (pN 1 k z fun a k=>nn (wp_ret (fS h k m z z)))
 exact ⟨0,k.keep [0,1,5] z,m.sel [] z (by decide),h⟩
theorem c_laws_eqSpot (fu:Nat) {w0:World} (a1:Spot) (b2:Spot)  {r:Bool}
    (h:d_laws_eqSpot fu a1 b2 = some r) :
    Calls Tryz.prog 223 #[.agg (Flat.e (a1)).toArray,.agg (Flat.e (b2)).toArray] w0 fun e w=>e = .returned (.bool (r)) ∧ Ext [] w0 w:=by
 refine enter (vs:=[_,_]) func223 z ntmps223 z fun a k=>?_
 have m:=St.start w0
 unfold d_laws_eqSpot at h
 refine wr (s_box (cs:=[I a1.fPallet,I a1.fX,I a1.fY,I a1.fZ]) m k z z z z z z fun b3 w5 a k m e Aa=>s_box (cs:=[I b2.fPallet,I b2.fX,I b2.fY,I b2.fZ]) m k z z z z z z fun b6 w9 a k m e Ab=>pN 1 k z fun a k=>nn (wp_seq (wr (sv k z (r_fa fa139_0 k z z) fun a k=>sv k z (r_ldb t13 m 1 Aa 0 k z z z z z) fun a k=>sv k z (r_fa fa139_0 k z z) fun a k=>sv k z (r_ldb t13 m 0 Ab 0 k z z z z z) fun a k=>pN 1 k z fun a k=>nn (cI h k z (fun Ad h=>?_) fun Ad h=>?_)))))
 · refine wr (pN 1 k z fun a k=>nn (wp_ret (rt_then ?_)))
   refine fS h k m z z
 refine wp_skip (nm_then ?_)
 refine wp_seq (wr (sv k z (r_fa fa139_1 k z z) fun a k=>sv k z (r_ldb t13 m 1 Aa 1 k z z z z z) fun a k=>sv k z (r_fa fa139_1 k z z) fun a k=>sv k z (r_ldb t13 m 0 Ab 1 k z z z z z) fun a k=>pN 1 k z fun a k=>nn (cI h k z (fun Ae h=>?_) fun Ae h=>?_)))
 · refine wr (pN 1 k z fun a k=>nn (wp_ret (rt_then ?_)))
   refine fS h k m z z
 refine wp_skip (nm_then ?_)
 refine wp_seq (wr (sv k z (r_fa fa139_2 k z z) fun a k=>sv k z (r_ldb t13 m 1 Aa 2 k z z z z z) fun a k=>sv k z (r_fa fa139_2 k z z) fun a k=>sv k z (r_ldb t13 m 0 Ab 2 k z z z z z) fun a k=>pN 1 k z fun a k=>nn (cI h k z (fun Ac h=>?_) fun Ac h=>?_)))
 · refine wr (pN 1 k z fun a k=>nn (wp_ret (rt_then ?_)))
   refine fS h k m z z
 refine wp_skip (nm_then ?_)
 refine wp_seq (wr (sv k z (r_fa fa139_3 k z z) fun a k=>sv k z (r_ldb t13 m 1 Aa 3 k z z z z z) fun a k=>sv k z (r_fa fa139_3 k z z) fun a k=>sv k z (r_ldb t13 m 0 Ab 3 k z z z z z) fun a k=>pN 1 k z fun a k=>nn (cI h k z (fun Af h=>?_) fun Af h=>?_)))
 · refine wr (pN 1 k z fun a k=>nn (wp_ret (rt_then ?_)))
   refine fS h k m z z
 refine wp_skip (nm_then ?_)
 refine wr (pN 1 k z fun a k=>nn (wp_ret (fS h k m z z)))
theorem c_laws_eqSpotS (fu:Nat) {w0:World} (a1:List Spot) (b5:List Spot) {v2:Value} {F3:List Nat} (Aa:rd w0 F3 [v2] a1) {v6:Value} {F7:List Nat} (Ac:rd w0 F7 [v6] b5) {r:Bool}
    (h:d_laws_eqSpotS fu a1 b5 = some r) :
    Calls Tryz.prog 131 #[v2,v6] w0 fun e w=>e = .returned (.bool (r)) ∧ Ext [] w0 w:=by
 refine enter (vs:=[_,_]) func131 z ntmps131 z fun a k=>?_
 have m:=St.start w0
 unfold d_laws_eqSpotS at h
 refine wr (pN 1 k z fun a k=>nn (wp_seq (wr (pN 1 k z fun a k=>sv k z (r_len (α:=Spot) Aa k underlying72 z z) fun a k=>pN 1 k z fun a k=>sv k z (r_len (α:=Spot) Ac k underlying72 z z) fun a k=>pN 1 k z fun a k=>nn (cI h k z (fun Al h=>?_) fun Al h=>?_)))))
 · refine wr (pN 1 k z fun a k=>nn (wp_ret (rt_then ?_)))
   refine fS h k m z z
 refine wp_skip (nm_then ?_)
 refine wp_seq (wr (pN 1 k z fun a k=>nn (wp_block (c_loop (fun n a w=>∃ (Ab:Int),K 27 [(0,v2),(1,v6),(5,I Ab)] a ∧ St [] w0 w [] ∧ d_laws_eqSpotS_L1 fu a1 b5 n Ab = some r) ?_ ?_ fu _ _ ?_))))
 · rintro a w ⟨_,_,_,h⟩
   exact nS h
 · rintro Aq a Am ⟨Ab,k,m,h⟩
   rw [d_laws_eqSpotS_L1_s] at h
   unfold d_laws_eqSpotS_L1_B at h
   refine wp_seq (wr (pN 2 k z fun a k=>sv k z (r_len (α:=Spot) Aa k underlying72 z z) fun a k=>pN 1 k z fun a k=>nn (cI h k z (fun Ag h=>?_) fun Ag h=>?_)))
   · refine wp_skip (nm_then ?_)
     refine wp_seq (wp_block (wp_seq (d_go [] mixo m z fun Ah hMd=>?_)))
     have m:=hMd
     have s:=Ext.refl ([]:List Nat) Ah
     refine dN [0,1,4,5] 4 z k (by kernel_rfl) z s (fun _ _ _ _ _=>id) fun a k=>oE h fun Ai Ae h=>dt k 2 z (by kernel_rfl) z s (fun _ _ _=>id) (fun w s=>r_ixa Aa Ae k ts72 z z z) fun a k=>dt k 3 z (by kernel_rfl) z s (fun _ _ _=>id) (fun w s=>r_lde Aa ((hMd.step s).a00 (Enc.rd_lt Aa)) Ae ta139 k z z) fun a k=>oE h fun Ak Ad h=>dt k 6 z (by kernel_rfl) z s (fun _ _ _=>id) (fun w s=>r_ixa Ac Ad k ts72 z z z) fun a k=>dt k 7 z (by kernel_rfl) z s (fun _ _ _=>id) (fun w s=>r_lde Ac ((hMd.step s).a00 (Enc.rd_lt Ac)) Ad ta139 k z z) fun a k=>d_one 8 (by kernel_rfl) z (oE h fun Ao Af h=>cE k m call223 z z z (c_laws_eqSpot fu (Ai:Spot) (Ak:Spot)  Af) fun Ap e a k m=>?_)
     have s:=s.trans e (by simp)
     refine wpList_nil ⟨s,?_⟩
     refine dN [9] 1 z k (by kernel_rfl) z s (fun _ _ _ _ _=>id) fun a k=>d_done (by kernel_rfl) ((nm_then ?_))
     refine cI h k z (fun Aj h=>?_) fun Aj h=>?_
     · refine wr (pN 1 k z fun a k=>nn (wp_ret (rt_block (rt_then (rt_then (rt_block (rt_then ?_)))))))
       refine fS h k m z z
     refine wp_skip (nm_block (nm_then ?_))
     refine wp_region_lit (pN 3 k z fun a k=>nn ?_)
     exact ⟨w64 (Ab + 1),k.keep [0,1,5] z,m.sel [] z (by decide),h⟩
   refine wp_exit (ex_then (ex_then (ex_same (nm_then ?_))))
   refine wr (pN 1 k z fun a k=>nn (wp_ret (fS h k m z z)))
 exact ⟨0,k.keep [0,1,5] z,m.sel [] z (by decide),h⟩
theorem c_laws_eqPlan (fu:Nat) {w0:World} (a1:Plan) (b5:Plan) {Ae:List Value} {F3:List Nat} (Ak:rd w0 F3 Ae a1) {Ab:List Value} {F7:List Nat} (Al:rd w0 F7 Ab b5) {r:Bool}
    (h:d_laws_eqPlan fu a1 b5 = some r) :
    Calls Tryz.prog 42 #[.agg Ae.toArray,.agg Ab.toArray] w0 fun e w=>e = .returned (.bool (r)) ∧ Ext [] w0 w:=by
 refine enter (vs:=[_,_]) func42 z ntmps42 z fun a k=>?_
 have m:=St.start w0
 obtain ⟨v9,Az,Am,Ay,rfl,rfl,Aa,Ah⟩:=Ak
 obtain ⟨Aj,Au,Aq,Bd,rfl,rfl,Ad,Ag⟩:=Al
 unfold d_laws_eqPlan at h
 refine wr (s_box (cs:=[v9,Am]) m k z z z z z z fun Bb Av a k m e Ac=>s_box (cs:=[Aj,Aq]) m k z z z z z z fun As Ax a k m e Af=>pN 1 k z fun a k=>nn (wp_seq (wr (sv k z (r_fa fa74_0 k z z) fun a k=>sv k z (r_ldb t143 m 1 Ac 0 k z z z z z) fun a k=>sv k z (r_fa fa74_0 k z z) fun a k=>sv k z (r_ldb t143 m 0 Af 0 k z z z z z) fun a k=>oE h fun Aw Ao h=>cE k m call130 z z z (c_laws_eqCartonS fu _ _ (Enc.rd_agr Aa (m.a00 (Enc.rd_lt Aa))) (Enc.rd_agr Ad (m.a00 (Enc.rd_lt Ad))) Ao) fun Bc e a k m=>pN 1 k z fun a k=>nn (cI h k z (fun Ap h=>?_) fun Ap h=>?_)))))
 · refine wr (pN 1 k z fun a k=>nn (wp_ret (rt_then ?_)))
   refine fS h k m z z
 refine wp_skip (nm_then ?_)
 refine wp_seq (wr (sv k z (r_fa fa74_1 k z z) fun a k=>sv k z (r_ldb t172 m 1 Ac 1 k z z z z z) fun a k=>sv k z (r_fa fa74_1 k z z) fun a k=>sv k z (r_ldb t172 m 0 Af 1 k z z z z z) fun a k=>oE h fun At Ai h=>cE k m call131 z z z (c_laws_eqSpotS fu _ _ (Enc.rd_agr Ah (m.a00 (Enc.rd_lt Ah))) (Enc.rd_agr Ag (m.a00 (Enc.rd_lt Ag))) Ai) fun Ba e a k m=>pN 1 k z fun a k=>nn (cI h k z (fun Ar h=>?_) fun Ar h=>?_)))
 · refine wr (pN 1 k z fun a k=>nn (wp_ret (rt_then ?_)))
   refine fS h k m z z
 refine wp_skip (nm_then ?_)
 refine wr (pN 1 k z fun a k=>nn (wp_ret (fS h k m z z)))
theorem c_laws_eqPallet (fu:Nat) {w0:World} (a1:Pallet) (b2:Pallet)  {r:Bool}
    (h:d_laws_eqPallet fu a1 b2 = some r) :
    Calls Tryz.prog 96 #[.agg (Flat.e (a1)).toArray,.agg (Flat.e (b2)).toArray] w0 fun e w=>e = .returned (.bool (r)) ∧ Ext [] w0 w:=by
 refine enter (vs:=[_,_]) func96 z ntmps96 z fun a k=>?_
 have m:=St.start w0
 unfold d_laws_eqPallet at h
 refine wr (s_box (cs:=[I a1.fW,I a1.fD,I a1.fH,I a1.fGram]) m k z z z z z z fun b3 w5 a k m e Aa=>s_box (cs:=[I b2.fW,I b2.fD,I b2.fH,I b2.fGram]) m k z z z z z z fun b6 w9 a k m e Ab=>pN 1 k z fun a k=>nn (wp_seq (wr (sv k z (r_fa fa25_0 k z z) fun a k=>sv k z (r_ldb t13 m 1 Aa 0 k z z z z z) fun a k=>sv k z (r_fa fa25_0 k z z) fun a k=>sv k z (r_ldb t13 m 0 Ab 0 k z z z z z) fun a k=>pN 1 k z fun a k=>nn (cI h k z (fun Ad h=>?_) fun Ad h=>?_)))))
 · refine wr (pN 1 k z fun a k=>nn (wp_ret (rt_then ?_)))
   refine fS h k m z z
 refine wp_skip (nm_then ?_)
 refine wp_seq (wr (sv k z (r_fa fa25_1 k z z) fun a k=>sv k z (r_ldb t13 m 1 Aa 1 k z z z z z) fun a k=>sv k z (r_fa fa25_1 k z z) fun a k=>sv k z (r_ldb t13 m 0 Ab 1 k z z z z z) fun a k=>pN 1 k z fun a k=>nn (cI h k z (fun Ae h=>?_) fun Ae h=>?_)))
 · refine wr (pN 1 k z fun a k=>nn (wp_ret (rt_then ?_)))
   refine fS h k m z z
 refine wp_skip (nm_then ?_)
 refine wp_seq (wr (sv k z (r_fa fa25_2 k z z) fun a k=>sv k z (r_ldb t13 m 1 Aa 2 k z z z z z) fun a k=>sv k z (r_fa fa25_2 k z z) fun a k=>sv k z (r_ldb t13 m 0 Ab 2 k z z z z z) fun a k=>pN 1 k z fun a k=>nn (cI h k z (fun Ac h=>?_) fun Ac h=>?_)))
 · refine wr (pN 1 k z fun a k=>nn (wp_ret (rt_then ?_)))
   refine fS h k m z z
 refine wp_skip (nm_then ?_)
 refine wp_seq (wr (sv k z (r_fa fa25_3 k z z) fun a k=>sv k z (r_ldb t13 m 1 Aa 3 k z z z z z) fun a k=>sv k z (r_fa fa25_3 k z z) fun a k=>sv k z (r_ldb t13 m 0 Ab 3 k z z z z z) fun a k=>pN 1 k z fun a k=>nn (cI h k z (fun Af h=>?_) fun Af h=>?_)))
 · refine wr (pN 1 k z fun a k=>nn (wp_ret (rt_then ?_)))
   refine fS h k m z z
 refine wp_skip (nm_then ?_)
 refine wr (pN 1 k z fun a k=>nn (wp_ret (fS h k m z z)))
theorem c_laws_eqPair (fu:Nat) {w0:World} (a1:Pair) (b2:Pair)  {r:Bool}
    (h:d_laws_eqPair fu a1 b2 = some r) :
    Calls Tryz.prog 187 #[.agg (Flat.e (a1)).toArray,.agg (Flat.e (b2)).toArray] w0 fun e w=>e = .returned (.bool (r)) ∧ Ext [] w0 w:=by
 refine enter (vs:=[_,_]) func187 z ntmps187 z fun a k=>?_
 have m:=St.start w0
 unfold d_laws_eqPair at h
 refine wr (s_box (cs:=[I a1.fA,I a1.fB]) m k z z z z z z fun b3 w5 a k m e Aa=>s_box (cs:=[I b2.fA,I b2.fB]) m k z z z z z z fun b6 w9 a k m e Ab=>pN 1 k z fun a k=>nn (wp_seq (wr (sv k z (r_fa fa158_0 k z z) fun a k=>sv k z (r_ldb t13 m 1 Aa 0 k z z z z z) fun a k=>sv k z (r_fa fa158_0 k z z) fun a k=>sv k z (r_ldb t13 m 0 Ab 0 k z z z z z) fun a k=>pN 1 k z fun a k=>nn (cI h k z (fun Ad h=>?_) fun Ad h=>?_)))))
 · refine wr (pN 1 k z fun a k=>nn (wp_ret (rt_then ?_)))
   refine fS h k m z z
 refine wp_skip (nm_then ?_)
 refine wp_seq (wr (sv k z (r_fa fa158_1 k z z) fun a k=>sv k z (r_ldb t13 m 1 Aa 1 k z z z z z) fun a k=>sv k z (r_fa fa158_1 k z z) fun a k=>sv k z (r_ldb t13 m 0 Ab 1 k z z z z z) fun a k=>pN 1 k z fun a k=>nn (cI h k z (fun Ac h=>?_) fun Ac h=>?_)))
 · refine wr (pN 1 k z fun a k=>nn (wp_ret (rt_then ?_)))
   refine fS h k m z z
 refine wp_skip (nm_then ?_)
 refine wr (pN 1 k z fun a k=>nn (wp_ret (fS h k m z z)))
theorem c_laws_eqPairS (fu:Nat) {w0:World} (a1:List Pair) (b5:List Pair) {v2:Value} {F3:List Nat} (Aa:rd w0 F3 [v2] a1) {v6:Value} {F7:List Nat} (Ac:rd w0 F7 [v6] b5) {r:Bool}
    (h:d_laws_eqPairS fu a1 b5 = some r) :
    Calls Tryz.prog 97 #[v2,v6] w0 fun e w=>e = .returned (.bool (r)) ∧ Ext [] w0 w:=by
 refine enter (vs:=[_,_]) func97 z ntmps97 z fun a k=>?_
 have m:=St.start w0
 unfold d_laws_eqPairS at h
 refine wr (pN 1 k z fun a k=>nn (wp_seq (wr (pN 1 k z fun a k=>sv k z (r_len (α:=Pair) Aa k underlying26 z z) fun a k=>pN 1 k z fun a k=>sv k z (r_len (α:=Pair) Ac k underlying26 z z) fun a k=>pN 1 k z fun a k=>nn (cI h k z (fun Al h=>?_) fun Al h=>?_)))))
 · refine wr (pN 1 k z fun a k=>nn (wp_ret (rt_then ?_)))
   refine fS h k m z z
 refine wp_skip (nm_then ?_)
 refine wp_seq (wr (pN 1 k z fun a k=>nn (wp_block (c_loop (fun n a w=>∃ (Ab:Int),K 27 [(0,v2),(1,v6),(5,I Ab)] a ∧ St [] w0 w [] ∧ d_laws_eqPairS_L1 fu a1 b5 n Ab = some r) ?_ ?_ fu _ _ ?_))))
 · rintro a w ⟨_,_,_,h⟩
   exact nS h
 · rintro Aq a Am ⟨Ab,k,m,h⟩
   rw [d_laws_eqPairS_L1_s] at h
   unfold d_laws_eqPairS_L1_B at h
   refine wp_seq (wr (pN 2 k z fun a k=>sv k z (r_len (α:=Pair) Aa k underlying26 z z) fun a k=>pN 1 k z fun a k=>nn (cI h k z (fun Ag h=>?_) fun Ag h=>?_)))
   · refine wp_skip (nm_then ?_)
     refine wp_seq (wp_block (wp_seq (d_go [] mixo m z fun Ah hMd=>?_)))
     have m:=hMd
     have s:=Ext.refl ([]:List Nat) Ah
     refine dN [0,1,4,5] 4 z k (by kernel_rfl) z s (fun _ _ _ _ _=>id) fun a k=>oE h fun Ai Ae h=>dt k 2 z (by kernel_rfl) z s (fun _ _ _=>id) (fun w s=>r_ixa Aa Ae k ts26 z z z) fun a k=>dt k 3 z (by kernel_rfl) z s (fun _ _ _=>id) (fun w s=>r_lde Aa ((hMd.step s).a00 (Enc.rd_lt Aa)) Ae ta158 k z z) fun a k=>oE h fun Ak Ad h=>dt k 6 z (by kernel_rfl) z s (fun _ _ _=>id) (fun w s=>r_ixa Ac Ad k ts26 z z z) fun a k=>dt k 7 z (by kernel_rfl) z s (fun _ _ _=>id) (fun w s=>r_lde Ac ((hMd.step s).a00 (Enc.rd_lt Ac)) Ad ta158 k z z) fun a k=>d_one 8 (by kernel_rfl) z (oE h fun Ao Af h=>cE k m call187 z z z (c_laws_eqPair fu (Ai:Pair) (Ak:Pair)  Af) fun Ap e a k m=>?_)
     have s:=s.trans e (by simp)
     refine wpList_nil ⟨s,?_⟩
     refine dN [9] 1 z k (by kernel_rfl) z s (fun _ _ _ _ _=>id) fun a k=>d_done (by kernel_rfl) ((nm_then ?_))
     refine cI h k z (fun Aj h=>?_) fun Aj h=>?_
     · refine wr (pN 1 k z fun a k=>nn (wp_ret (rt_block (rt_then (rt_then (rt_block (rt_then ?_)))))))
       refine fS h k m z z
     refine wp_skip (nm_block (nm_then ?_))
     refine wp_region_lit (pN 3 k z fun a k=>nn ?_)
     exact ⟨w64 (Ab + 1),k.keep [0,1,5] z,m.sel [] z (by decide),h⟩
   refine wp_exit (ex_then (ex_then (ex_same (nm_then ?_))))
   refine wr (pN 1 k z fun a k=>nn (wp_ret (fS h k m z z)))
 exact ⟨0,k.keep [0,1,5] z,m.sel [] z (by decide),h⟩
theorem c_laws_eqType (fu:Nat) {w0:World} (a1:Typ) (b2:Typ)  {r:Bool}
    (h:d_laws_eqType fu a1 b2 = some r) :
    Calls Tryz.prog 188 #[.agg (Flat.e (a1)).toArray,.agg (Flat.e (b2)).toArray] w0 fun e w=>e = .returned (.bool (r)) ∧ Ext [] w0 w:=by
 refine enter (vs:=[_,_]) func188 z ntmps188 z fun a k=>?_
 have m:=St.start w0
 unfold d_laws_eqType at h
 refine wr (s_box (cs:=[I a1.fId,I a1.fW,I a1.fH,I a1.fD,I a1.fTare,I a1.fGram,I a1.fCost]) m k z z z z z z fun b3 w5 a k m e Aa=>s_box (cs:=[I b2.fId,I b2.fW,I b2.fH,I b2.fD,I b2.fTare,I b2.fGram,I b2.fCost]) m k z z z z z z fun b6 w9 a k m e Ab=>pN 1 k z fun a k=>nn (wp_seq (wr (sv k z (r_fa fa38_0 k z z) fun a k=>sv k z (r_ldb t13 m 1 Aa 0 k z z z z z) fun a k=>sv k z (r_fa fa38_0 k z z) fun a k=>sv k z (r_ldb t13 m 0 Ab 0 k z z z z z) fun a k=>pN 1 k z fun a k=>nn (cI h k z (fun Ae h=>?_) fun Ae h=>?_)))))
 · refine wr (pN 1 k z fun a k=>nn (wp_ret (rt_then ?_)))
   refine fS h k m z z
 refine wp_skip (nm_then ?_)
 refine wp_seq (wr (sv k z (r_fa fa38_1 k z z) fun a k=>sv k z (r_ldb t13 m 1 Aa 1 k z z z z z) fun a k=>sv k z (r_fa fa38_1 k z z) fun a k=>sv k z (r_ldb t13 m 0 Ab 1 k z z z z z) fun a k=>pN 1 k z fun a k=>nn (cI h k z (fun Af h=>?_) fun Af h=>?_)))
 · refine wr (pN 1 k z fun a k=>nn (wp_ret (rt_then ?_)))
   refine fS h k m z z
 refine wp_skip (nm_then ?_)
 refine wp_seq (wr (sv k z (r_fa fa38_2 k z z) fun a k=>sv k z (r_ldb t13 m 1 Aa 2 k z z z z z) fun a k=>sv k z (r_fa fa38_2 k z z) fun a k=>sv k z (r_ldb t13 m 0 Ab 2 k z z z z z) fun a k=>pN 1 k z fun a k=>nn (cI h k z (fun Ad h=>?_) fun Ad h=>?_)))
 · refine wr (pN 1 k z fun a k=>nn (wp_ret (rt_then ?_)))
   refine fS h k m z z
 refine wp_skip (nm_then ?_)
 refine wp_seq (wr (sv k z (r_fa fa38_3 k z z) fun a k=>sv k z (r_ldb t13 m 1 Aa 3 k z z z z z) fun a k=>sv k z (r_fa fa38_3 k z z) fun a k=>sv k z (r_ldb t13 m 0 Ab 3 k z z z z z) fun a k=>pN 1 k z fun a k=>nn (cI h k z (fun Ai h=>?_) fun Ai h=>?_)))
 · refine wr (pN 1 k z fun a k=>nn (wp_ret (rt_then ?_)))
   refine fS h k m z z
 refine wp_skip (nm_then ?_)
 refine wp_seq (wr (sv k z (r_fa fa38_4 k z z) fun a k=>sv k z (r_ldb t13 m 1 Aa 4 k z z z z z) fun a k=>sv k z (r_fa fa38_4 k z z) fun a k=>sv k z (r_ldb t13 m 0 Ab 4 k z z z z z) fun a k=>pN 1 k z fun a k=>?_))
 have k:=k.keep [2,3,29] z
 refine nn (cI h k z (fun Ah h=>?_) fun Ah h=>?_)
 · refine wr (pN 1 k z fun a k=>nn (wp_ret (rt_then ?_)))
   refine fS h k m z z
 refine wp_skip (nm_then ?_)
 refine wp_seq (wr (sv k z (r_fa fa38_5 k z z) fun a k=>sv k z (r_ldb t13 m 1 Aa 5 k z z z z z) fun a k=>sv k z (r_fa fa38_5 k z z) fun a k=>sv k z (r_ldb t13 m 0 Ab 5 k z z z z z) fun a k=>pN 1 k z fun a k=>nn (cI h k z (fun Ag h=>?_) fun Ag h=>?_)))
 · refine wr (pN 1 k z fun a k=>nn (wp_ret (rt_then ?_)))
   refine fS h k m z z
 refine wp_skip (nm_then ?_)
 refine wp_seq (wr (sv k z (r_fa fa38_6 k z z) fun a k=>sv k z (r_ldb t13 m 1 Aa 6 k z z z z z) fun a k=>sv k z (r_fa fa38_6 k z z) fun a k=>sv k z (r_ldb t13 m 0 Ab 6 k z z z z z) fun a k=>pN 1 k z fun a k=>nn (cI h k z (fun Ac h=>?_) fun Ac h=>?_)))
 · refine wr (pN 1 k z fun a k=>nn (wp_ret (rt_then ?_)))
   refine fS h k m z z
 refine wp_skip (nm_then ?_)
 refine wr (pN 1 k z fun a k=>nn (wp_ret (fS h k m z z)))
theorem c_laws_eqTypeS (fu:Nat) {w0:World} (a1:List Typ) (b5:List Typ) {v2:Value} {F3:List Nat} (Aa:rd w0 F3 [v2] a1) {v6:Value} {F7:List Nat} (Ac:rd w0 F7 [v6] b5) {r:Bool}
    (h:d_laws_eqTypeS fu a1 b5 = some r) :
    Calls Tryz.prog 98 #[v2,v6] w0 fun e w=>e = .returned (.bool (r)) ∧ Ext [] w0 w:=by
 refine enter (vs:=[_,_]) func98 z ntmps98 z fun a k=>?_
 have m:=St.start w0
 unfold d_laws_eqTypeS at h
 refine wr (pN 1 k z fun a k=>nn (wp_seq (wr (pN 1 k z fun a k=>sv k z (r_len (α:=Typ) Aa k underlying27 z z) fun a k=>pN 1 k z fun a k=>sv k z (r_len (α:=Typ) Ac k underlying27 z z) fun a k=>pN 1 k z fun a k=>nn (cI h k z (fun Al h=>?_) fun Al h=>?_)))))
 · refine wr (pN 1 k z fun a k=>nn (wp_ret (rt_then ?_)))
   refine fS h k m z z
 refine wp_skip (nm_then ?_)
 refine wp_seq (wr (pN 1 k z fun a k=>nn (wp_block (c_loop (fun n a w=>∃ (Ab:Int),K 27 [(0,v2),(1,v6),(5,I Ab)] a ∧ St [] w0 w [] ∧ d_laws_eqTypeS_L1 fu a1 b5 n Ab = some r) ?_ ?_ fu _ _ ?_))))
 · rintro a w ⟨_,_,_,h⟩
   exact nS h
 · rintro Aq a Am ⟨Ab,k,m,h⟩
   rw [d_laws_eqTypeS_L1_s] at h
   unfold d_laws_eqTypeS_L1_B at h
   refine wp_seq (wr (pN 2 k z fun a k=>sv k z (r_len (α:=Typ) Aa k underlying27 z z) fun a k=>pN 1 k z fun a k=>nn (cI h k z (fun Ag h=>?_) fun Ag h=>?_)))
   · refine wp_skip (nm_then ?_)
     refine wp_seq (wp_block (wp_seq (d_go [] mixo m z fun Ah hMd=>?_)))
     have m:=hMd
     have s:=Ext.refl ([]:List Nat) Ah
     refine dN [0,1,4,5] 4 z k (by kernel_rfl) z s (fun _ _ _ _ _=>id) fun a k=>oE h fun Ai Ae h=>dt k 2 z (by kernel_rfl) z s (fun _ _ _=>id) (fun w s=>r_ixa Aa Ae k ts27 z z z) fun a k=>dt k 3 z (by kernel_rfl) z s (fun _ _ _=>id) (fun w s=>r_lde Aa ((hMd.step s).a00 (Enc.rd_lt Aa)) Ae ta38 k z z) fun a k=>oE h fun Ak Ad h=>dt k 6 z (by kernel_rfl) z s (fun _ _ _=>id) (fun w s=>r_ixa Ac Ad k ts27 z z z) fun a k=>dt k 7 z (by kernel_rfl) z s (fun _ _ _=>id) (fun w s=>r_lde Ac ((hMd.step s).a00 (Enc.rd_lt Ac)) Ad ta38 k z z) fun a k=>d_one 8 (by kernel_rfl) z (oE h fun Ao Af h=>cE k m call188 z z z (c_laws_eqType fu (Ai:Typ) (Ak:Typ)  Af) fun Ap e a k m=>?_)
     have s:=s.trans e (by simp)
     refine wpList_nil ⟨s,?_⟩
     refine dN [9] 1 z k (by kernel_rfl) z s (fun _ _ _ _ _=>id) fun a k=>d_done (by kernel_rfl) ((nm_then ?_))
     refine cI h k z (fun Aj h=>?_) fun Aj h=>?_
     · refine wr (pN 1 k z fun a k=>nn (wp_ret (rt_block (rt_then (rt_then (rt_block (rt_then ?_)))))))
       refine fS h k m z z
     refine wp_skip (nm_block (nm_then ?_))
     refine wp_region_lit (pN 3 k z fun a k=>nn ?_)
     exact ⟨w64 (Ab + 1),k.keep [0,1,5] z,m.sel [] z (by decide),h⟩
   refine wp_exit (ex_then (ex_then (ex_same (nm_then ?_))))
   refine wr (pN 1 k z fun a k=>nn (wp_ret (fS h k m z z)))
 exact ⟨0,k.keep [0,1,5] z,m.sel [] z (by decide),h⟩
theorem c_laws_eqItem (fu:Nat) {w0:World} (a1:Item) (b2:Item)  {r:Bool}
    (h:d_laws_eqItem fu a1 b2 = some r) :
    Calls Tryz.prog 189 #[.agg (Flat.e (a1)).toArray,.agg (Flat.e (b2)).toArray] w0 fun e w=>e = .returned (.bool (r)) ∧ Ext [] w0 w:=by
 refine enter (vs:=[_,_]) func189 z ntmps189 z fun a k=>?_
 have m:=St.start w0
 unfold d_laws_eqItem at h
 refine wr (s_box (cs:=[I a1.fId,I a1.fW,I a1.fH,I a1.fD,I a1.fGram,I a1.fClass,I a1.fCount]) m k z z z z z z fun b3 w5 a k m e Aa=>s_box (cs:=[I b2.fId,I b2.fW,I b2.fH,I b2.fD,I b2.fGram,I b2.fClass,I b2.fCount]) m k z z z z z z fun b6 w9 a k m e Ab=>pN 1 k z fun a k=>nn (wp_seq (wr (sv k z (r_fa fa97_0 k z z) fun a k=>sv k z (r_ldb t13 m 1 Aa 0 k z z z z z) fun a k=>sv k z (r_fa fa97_0 k z z) fun a k=>sv k z (r_ldb t13 m 0 Ab 0 k z z z z z) fun a k=>pN 1 k z fun a k=>nn (cI h k z (fun Ae h=>?_) fun Ae h=>?_)))))
 · refine wr (pN 1 k z fun a k=>nn (wp_ret (rt_then ?_)))
   refine fS h k m z z
 refine wp_skip (nm_then ?_)
 refine wp_seq (wr (sv k z (r_fa fa97_1 k z z) fun a k=>sv k z (r_ldb t13 m 1 Aa 1 k z z z z z) fun a k=>sv k z (r_fa fa97_1 k z z) fun a k=>sv k z (r_ldb t13 m 0 Ab 1 k z z z z z) fun a k=>pN 1 k z fun a k=>nn (cI h k z (fun Af h=>?_) fun Af h=>?_)))
 · refine wr (pN 1 k z fun a k=>nn (wp_ret (rt_then ?_)))
   refine fS h k m z z
 refine wp_skip (nm_then ?_)
 refine wp_seq (wr (sv k z (r_fa fa97_2 k z z) fun a k=>sv k z (r_ldb t13 m 1 Aa 2 k z z z z z) fun a k=>sv k z (r_fa fa97_2 k z z) fun a k=>sv k z (r_ldb t13 m 0 Ab 2 k z z z z z) fun a k=>pN 1 k z fun a k=>nn (cI h k z (fun Ad h=>?_) fun Ad h=>?_)))
 · refine wr (pN 1 k z fun a k=>nn (wp_ret (rt_then ?_)))
   refine fS h k m z z
 refine wp_skip (nm_then ?_)
 refine wp_seq (wr (sv k z (r_fa fa97_3 k z z) fun a k=>sv k z (r_ldb t13 m 1 Aa 3 k z z z z z) fun a k=>sv k z (r_fa fa97_3 k z z) fun a k=>sv k z (r_ldb t13 m 0 Ab 3 k z z z z z) fun a k=>pN 1 k z fun a k=>nn (cI h k z (fun Ai h=>?_) fun Ai h=>?_)))
 · refine wr (pN 1 k z fun a k=>nn (wp_ret (rt_then ?_)))
   refine fS h k m z z
 refine wp_skip (nm_then ?_)
 refine wp_seq (wr (sv k z (r_fa fa97_4 k z z) fun a k=>sv k z (r_ldb t13 m 1 Aa 4 k z z z z z) fun a k=>sv k z (r_fa fa97_4 k z z) fun a k=>sv k z (r_ldb t13 m 0 Ab 4 k z z z z z) fun a k=>pN 1 k z fun a k=>?_))
 have k:=k.keep [2,3,29] z
 refine nn (cI h k z (fun Ah h=>?_) fun Ah h=>?_)
 · refine wr (pN 1 k z fun a k=>nn (wp_ret (rt_then ?_)))
   refine fS h k m z z
 refine wp_skip (nm_then ?_)
 refine wp_seq (wr (sv k z (r_fa fa97_5 k z z) fun a k=>sv k z (r_ldb t13 m 1 Aa 5 k z z z z z) fun a k=>sv k z (r_fa fa97_5 k z z) fun a k=>sv k z (r_ldb t13 m 0 Ab 5 k z z z z z) fun a k=>pN 1 k z fun a k=>nn (cI h k z (fun Ag h=>?_) fun Ag h=>?_)))
 · refine wr (pN 1 k z fun a k=>nn (wp_ret (rt_then ?_)))
   refine fS h k m z z
 refine wp_skip (nm_then ?_)
 refine wp_seq (wr (sv k z (r_fa fa97_6 k z z) fun a k=>sv k z (r_ldb t13 m 1 Aa 6 k z z z z z) fun a k=>sv k z (r_fa fa97_6 k z z) fun a k=>sv k z (r_ldb t13 m 0 Ab 6 k z z z z z) fun a k=>pN 1 k z fun a k=>nn (cI h k z (fun Ac h=>?_) fun Ac h=>?_)))
 · refine wr (pN 1 k z fun a k=>nn (wp_ret (rt_then ?_)))
   refine fS h k m z z
 refine wp_skip (nm_then ?_)
 refine wr (pN 1 k z fun a k=>nn (wp_ret (fS h k m z z)))
theorem c_laws_eqItemS (fu:Nat) {w0:World} (a1:List Item) (b5:List Item) {v2:Value} {F3:List Nat} (Aa:rd w0 F3 [v2] a1) {v6:Value} {F7:List Nat} (Ac:rd w0 F7 [v6] b5) {r:Bool}
    (h:d_laws_eqItemS fu a1 b5 = some r) :
    Calls Tryz.prog 99 #[v2,v6] w0 fun e w=>e = .returned (.bool (r)) ∧ Ext [] w0 w:=by
 refine enter (vs:=[_,_]) func99 z ntmps99 z fun a k=>?_
 have m:=St.start w0
 unfold d_laws_eqItemS at h
 refine wr (pN 1 k z fun a k=>nn (wp_seq (wr (pN 1 k z fun a k=>sv k z (r_len (α:=Item) Aa k underlying28 z z) fun a k=>pN 1 k z fun a k=>sv k z (r_len (α:=Item) Ac k underlying28 z z) fun a k=>pN 1 k z fun a k=>nn (cI h k z (fun Al h=>?_) fun Al h=>?_)))))
 · refine wr (pN 1 k z fun a k=>nn (wp_ret (rt_then ?_)))
   refine fS h k m z z
 refine wp_skip (nm_then ?_)
 refine wp_seq (wr (pN 1 k z fun a k=>nn (wp_block (c_loop (fun n a w=>∃ (Ab:Int),K 27 [(0,v2),(1,v6),(5,I Ab)] a ∧ St [] w0 w [] ∧ d_laws_eqItemS_L1 fu a1 b5 n Ab = some r) ?_ ?_ fu _ _ ?_))))
 · rintro a w ⟨_,_,_,h⟩
   exact nS h
 · rintro Aq a Am ⟨Ab,k,m,h⟩
   rw [d_laws_eqItemS_L1_s] at h
   unfold d_laws_eqItemS_L1_B at h
   refine wp_seq (wr (pN 2 k z fun a k=>sv k z (r_len (α:=Item) Aa k underlying28 z z) fun a k=>pN 1 k z fun a k=>nn (cI h k z (fun Ag h=>?_) fun Ag h=>?_)))
   · refine wp_skip (nm_then ?_)
     refine wp_seq (wp_block (wp_seq (d_go [] mixo m z fun Ah hMd=>?_)))
     have m:=hMd
     have s:=Ext.refl ([]:List Nat) Ah
     refine dN [0,1,4,5] 4 z k (by kernel_rfl) z s (fun _ _ _ _ _=>id) fun a k=>oE h fun Ai Ae h=>dt k 2 z (by kernel_rfl) z s (fun _ _ _=>id) (fun w s=>r_ixa Aa Ae k ts28 z z z) fun a k=>dt k 3 z (by kernel_rfl) z s (fun _ _ _=>id) (fun w s=>r_lde Aa ((hMd.step s).a00 (Enc.rd_lt Aa)) Ae ta97 k z z) fun a k=>oE h fun Ak Ad h=>dt k 6 z (by kernel_rfl) z s (fun _ _ _=>id) (fun w s=>r_ixa Ac Ad k ts28 z z z) fun a k=>dt k 7 z (by kernel_rfl) z s (fun _ _ _=>id) (fun w s=>r_lde Ac ((hMd.step s).a00 (Enc.rd_lt Ac)) Ad ta97 k z z) fun a k=>d_one 8 (by kernel_rfl) z (oE h fun Ao Af h=>cE k m call189 z z z (c_laws_eqItem fu (Ai:Item) (Ak:Item)  Af) fun Ap e a k m=>?_)
     have s:=s.trans e (by simp)
     refine wpList_nil ⟨s,?_⟩
     refine dN [9] 1 z k (by kernel_rfl) z s (fun _ _ _ _ _=>id) fun a k=>d_done (by kernel_rfl) ((nm_then ?_))
     refine cI h k z (fun Aj h=>?_) fun Aj h=>?_
     · refine wr (pN 1 k z fun a k=>nn (wp_ret (rt_block (rt_then (rt_then (rt_block (rt_then ?_)))))))
       refine fS h k m z z
     refine wp_skip (nm_block (nm_then ?_))
     refine wp_region_lit (pN 3 k z fun a k=>nn ?_)
     exact ⟨w64 (Ab + 1),k.keep [0,1,5] z,m.sel [] z (by decide),h⟩
   refine wp_exit (ex_then (ex_then (ex_same (nm_then ?_))))
   refine wr (pN 1 k z fun a k=>nn (wp_ret (fS h k m z z)))
 exact ⟨0,k.keep [0,1,5] z,m.sel [] z (by decide),h⟩
theorem c_laws_eqRequest (fu:Nat) {w0:World} (a1:Request) (b5:Request) {Ah:List Value} {F3:List Nat} (Al:rd w0 F3 Ah a1) {Af:List Value} {F7:List Nat} (Ay:rd w0 F7 Af b5) {r:Bool}
    (h:d_laws_eqRequest fu a1 b5 = some r) :
    Calls Tryz.prog 30 #[.agg Ah.toArray,.agg Af.toArray] w0 fun e w=>e = .returned (.bool (r)) ∧ Ext [] w0 w:=by
 refine enter (vs:=[_,_]) func30 z ntmps30 z fun a k=>?_
 have m:=St.start w0
 obtain ⟨v9,Bm,Az,Bf,Ao,Be,rfl,rfl,Ai,Aj,Ac⟩:=Al
 obtain ⟨Av,Bl,Ak,Bj,Au,Bk,rfl,rfl,Ag,Ad,Ae⟩:=Ay
 unfold d_laws_eqRequest at h
 refine wr (s_box (cs:=[I a1.fWay,I a1.fPallet.fW,I a1.fPallet.fD,I a1.fPallet.fH,I a1.fPallet.fGram,I a1.fClasses,v9,Az,I a1.fMaster,Ao]) m k z z z z z z fun Bs Bt a k m e Aa=>s_box (cs:=[I b5.fWay,I b5.fPallet.fW,I b5.fPallet.fD,I b5.fPallet.fH,I b5.fPallet.fGram,I b5.fClasses,Av,Ak,I b5.fMaster,Au]) m k z z z z z z fun Bo Br a k m e Ab=>pN 1 k z fun a k=>nn (wp_seq (wr (sv k z (r_fa fa30_0 k z z) fun a k=>sv k z (r_ldb t13 m 1 Aa 0 k z z z z z) fun a k=>sv k z (r_fa fa30_0 k z z) fun a k=>sv k z (r_ldb t13 m 0 Ab 0 k z z z z z) fun a k=>pN 1 k z fun a k=>nn ?_))))
 refine cI h k z (fun Ap h=>?_) fun Ap h=>?_
 · refine wr (pN 1 k z fun a k=>nn (wp_ret (rt_then ?_)))
   refine fS h k m z z
 refine wp_skip (nm_then ?_)
 refine wp_seq (wr (sv k z (r_fa fa30_1 k z z) fun a k=>sv k z (r_ldB ta25 m 1 Aa 1 k z z z z z z) fun a k=>sv k z (r_fa fa30_1 k z z) fun a k=>sv k z (r_ldB ta25 m 0 Ab 1 k z z z z z z) fun a k=>oE h fun Bu Ax h=>cE k m call96 z z z (c_laws_eqPallet fu (a1.fPallet:Pallet) (b5.fPallet:Pallet)  Ax) fun Bg e a k m=>pN 1 k z fun a k=>nn (cI h k z (fun Ar h=>?_) fun Ar h=>?_)))
 · refine wr (pN 1 k z fun a k=>nn (wp_ret (rt_then ?_)))
   refine fS h k m z z
 refine wp_skip (nm_then ?_)
 refine wp_seq (wr (sv k z (r_fa fa30_2 k z z) fun a k=>sv k z (r_ldb t13 m 1 Aa 5 k z z z z z) fun a k=>sv k z (r_fa fa30_2 k z z) fun a k=>sv k z (r_ldb t13 m 0 Ab 5 k z z z z z) fun a k=>pN 1 k z fun a k=>nn (cI h k z (fun Aw h=>?_) fun Aw h=>?_)))
 · refine wr (pN 1 k z fun a k=>nn (wp_ret (rt_then ?_)))
   refine fS h k m z z
 refine wp_skip (nm_then ?_)
 refine wp_seq (wr (sv k z (r_fa fa30_3 k z z) fun a k=>sv k z (r_ldb t126 m 1 Aa 6 k z z z z z) fun a k=>sv k z (r_fa fa30_3 k z z) fun a k=>sv k z (r_ldb t126 m 0 Ab 6 k z z z z z) fun a k=>oE h fun Bn At h=>cE k m call97 z z z (c_laws_eqPairS fu _ _ (Enc.rd_agr Ai (m.a00 (Enc.rd_lt Ai))) (Enc.rd_agr Ag (m.a00 (Enc.rd_lt Ag))) At) fun Bh e a k m=>pN 1 k z fun a k=>?_))
 have k:=k.keep [2,3,26] z
 refine nn (cI h k z (fun Ba h=>?_) fun Ba h=>?_)
 · refine wr (pN 1 k z fun a k=>nn (wp_ret (rt_then ?_)))
   refine fS h k m z z
 refine wp_skip (nm_then ?_)
 refine wp_seq (wr (sv k z (r_fa fa30_4 k z z) fun a k=>sv k z (r_ldb t127 m 1 Aa 7 k z z z z z) fun a k=>sv k z (r_fa fa30_4 k z z) fun a k=>sv k z (r_ldb t127 m 0 Ab 7 k z z z z z) fun a k=>oE h fun Bq Bc h=>cE k m call98 z z z (c_laws_eqTypeS fu _ _ (Enc.rd_agr Aj (m.a00 (Enc.rd_lt Aj))) (Enc.rd_agr Ad (m.a00 (Enc.rd_lt Ad))) Bc) fun Bd e a k m=>pN 1 k z fun a k=>nn (cI h k z (fun Aq h=>?_) fun Aq h=>?_)))
 · refine wr (pN 1 k z fun a k=>nn (wp_ret (rt_then ?_)))
   refine fS h k m z z
 refine wp_skip (nm_then ?_)
 refine wp_seq (wr (sv k z (r_fa fa30_5 k z z) fun a k=>sv k z (r_ldb t13 m 1 Aa 8 k z z z z z) fun a k=>sv k z (r_fa fa30_5 k z z) fun a k=>sv k z (r_ldb t13 m 0 Ab 8 k z z z z z) fun a k=>pN 1 k z fun a k=>nn (cI h k z (fun Am h=>?_) fun Am h=>?_)))
 · refine wr (pN 1 k z fun a k=>nn (wp_ret (rt_then ?_)))
   refine fS h k m z z
 refine wp_skip (nm_then ?_)
 refine wp_seq (wr (sv k z (r_fa fa30_6 k z z) fun a k=>sv k z (r_ldb t128 m 1 Aa 9 k z z z z z) fun a k=>sv k z (r_fa fa30_6 k z z) fun a k=>sv k z (r_ldb t128 m 0 Ab 9 k z z z z z) fun a k=>oE h fun Bi As h=>cE k m call99 z z z (c_laws_eqItemS fu _ _ (Enc.rd_agr Ac (m.a00 (Enc.rd_lt Ac))) (Enc.rd_agr Ae (m.a00 (Enc.rd_lt Ae))) As) fun Bp e a k m=>pN 1 k z fun a k=>nn (cI h k z (fun Bb h=>?_) fun Bb h=>?_)))
 · refine wr (pN 1 k z fun a k=>nn (wp_ret (rt_then ?_)))
   refine fS h k m z z
 refine wp_skip (nm_then ?_)
 refine wr (pN 1 k z fun a k=>nn (wp_ret (fS h k m z z)))
theorem c_laws_markPairS (fu:Nat) {w0:World} (a1:List Pair) (Ag:Int) {v2:Value} {F3:List Nat} (Ae:ow w0 F3 [v2] a1) {r:Int × (List Pair)}
    (h:d_laws_markPairS fu a1 Ag = some r) :
    Calls Tryz.prog 100 #[v2,I Ag] w0 fun e w=>∃ (H0:List Nat),e = .returned (I r.1) ∧ Ext F3 w0 w ∧ (∀ b ∈ H0,b ∈ F3 ∨ w0.heap.size ≤ b) ∧ ow w H0 [v2] r.2:=by
 refine enter (vs:=[_,_]) func100 z ntmps100 z fun a k=>?_
 have m:=St.start1 w0 (Enc.rd_lt (Enc.ow_rd Ae)) (Enc.ow_nd Ae)
 unfold d_laws_markPairS at h
 refine wr (pN 1 k z fun a k=>nn (wp_seq (wr (pN 1 k z fun a k=>nn (wp_block (c_loop (fun n a w=>∃ (Ac:List Pair) (Af:World) (Aa:Int) (Ab:Int),K 27 [(0,v2),(1,I Aa),(5,I Ab)] a ∧ St F3 w0 w [(F3,Af)] ∧ ow Af F3 [v2] Ac ∧ d_laws_markPairS_L1 fu  n Ac Aa Ab = some r) ?_ ?_ fu _ _ ?_))))))
 · rintro a w ⟨_,_,_,_,_,_,_,h⟩
   exact nS h
 · rintro As a Aq ⟨Ac,Af,Aa,Ab,k,m,Ad,h⟩
   rw [d_laws_markPairS_L1_s] at h
   unfold d_laws_markPairS_L1_B at h
   refine wp_seq (wr (pN 2 k z fun a k=>sv k z (r_len (α:=Pair) (Enc.ow_rd Ad) k underlying26 z z) fun a k=>pN 1 k z fun a k=>nn (cI h k z (fun Am h=>?_) fun Am h=>?_)))
   · refine wp_skip (nm_then ?_)
     refine wp_seq (wp_block (wr (pN 3 k z fun a k=>oE h fun Ai Ak h=>sv k z (r_ixa (Enc.ow_rd Ad) Ak k ts26 z z z) fun a k=>sv k z (r_fa fa158_0 k z z) fun a k=>s_ste (α:=Pair) (sz:=2) (y:={ Ai with fA:=Aa }) sizeOf3 Ak m 0 Ad 0 k z z z z z z z z z z z z fun Ar a k e m Al=>nn (wr (pN 3 k z fun a k=>nn (wr (pN 3 k z fun a k=>oE h fun Ah Aj h=>sv k z (r_ixa (Enc.ow_rd Al) Aj k ts26 z z z) fun a k=>sv k z (r_fa fa158_1 k z z) fun a k=>s_ste (α:=Pair) (sz:=2) (y:={ Ah with fB:=w64 (Aa + 1) }) sizeOf3 Aj m 0 Al 1 k z z z z z z z z z z z z fun Ao a k e m Ap=>nn (wp_region_lit (pN 3 k z fun a k=>wpList_nil (nm_block (nm_then ?_)))))))))))
     refine wp_region_lit (pN 3 k z fun a k=>?_)
     have k:=k.keep [0,1,5] z
     refine nn ?_
     exact ⟨setx (setx Ac Ab ({ Ai with fA:=Aa })) Ab ({ Ah with fB:=w64 (Aa + 1) }),Ao,w64 ((w64 (Aa + 1)) + 1),w64 (Ab + 1),k.keep [0,1,5] z,m.sel [0] z (by decide),Ap,h⟩
   refine wp_exit (ex_then (ex_then (ex_same (nm_then ?_))))
   refine wr (pN 2 k z fun a k=>nn (wp_ret ?_))
   cases h
   exact finR1 k z (RV.tmp k z) ⟨F3,z,m.ext,(fun b hb=>m.lo b (mem_fps (i:=0) z hb)),(Enc.ow_agr Ad (m.a 0 z))⟩
 exact ⟨a1,w0,Ag,0,k.keep [0,1,5] z,m.sel [0] z (by decide),Ae,h⟩
theorem c_laws_markTypeS (fu:Nat) {w0:World} (a1:List Typ) (Ag:Int) {v2:Value} {F3:List Nat} (Ae:ow w0 F3 [v2] a1) {r:Int × (List Typ)}
    (h:d_laws_markTypeS fu a1 Ag = some r) :
    Calls Tryz.prog 101 #[v2,I Ag] w0 fun e w=>∃ (H0:List Nat),e = .returned (I r.1) ∧ Ext F3 w0 w ∧ (∀ b ∈ H0,b ∈ F3 ∨ w0.heap.size ≤ b) ∧ ow w H0 [v2] r.2:=by
 refine enter (vs:=[_,_]) func101 z ntmps101 z fun a k=>?_
 have m:=St.start1 w0 (Enc.rd_lt (Enc.ow_rd Ae)) (Enc.ow_nd Ae)
 unfold d_laws_markTypeS at h
 refine wr (pN 1 k z fun a k=>nn (wp_seq (wr (pN 1 k z fun a k=>nn (wp_block (c_loop (fun n a w=>∃ (Ad:List Typ) (Af:World) (Aa:Int) (Ab:Int),K 62 [(0,v2),(1,I Aa),(5,I Ab)] a ∧ St F3 w0 w [(F3,Af)] ∧ ow Af F3 [v2] Ad ∧ d_laws_markTypeS_L1 fu  n Ad Aa Ab = some r) ?_ ?_ fu _ _ ?_))))))
 · rintro a w ⟨_,_,_,_,_,_,_,h⟩
   exact nS h
 · rintro Bf a Bl ⟨Ad,Af,Aa,Ab,k,m,Ac,h⟩
   rw [d_laws_markTypeS_L1_s] at h
   unfold d_laws_markTypeS_L1_B at h
   refine wp_seq (wr (pN 2 k z fun a k=>sv k z (r_len (α:=Typ) (Enc.ow_rd Ac) k underlying27 z z) fun a k=>pN 1 k z fun a k=>nn (cI h k z (fun Bd h=>?_) fun Bd h=>?_)))
   · refine wp_skip (nm_then ?_)
     refine wp_seq (wp_block (wr (pN 3 k z fun a k=>oE h fun Az Ak h=>sv k z (r_ixa (Enc.ow_rd Ac) Ak k ts27 z z z) fun a k=>sv k z (r_fa fa38_0 k z z) fun a k=>s_ste (α:=Typ) (sz:=7) (y:={ Az with fId:=Aa }) sizeOf3 Ak m 0 Ac 0 k z z z z z z z z z z z z fun Bj a k e m Av=>nn (wr (pN 3 k z fun a k=>nn (wr (pN 3 k z fun a k=>oE h fun Al Ap h=>sv k z (r_ixa (Enc.ow_rd Av) Ap k ts27 z z z) fun a k=>sv k z (r_fa fa38_1 k z z) fun a k=>s_ste (α:=Typ) (sz:=7) (y:={ Al with fW:=w64 (Aa + 1) }) sizeOf3 Ap m 0 Av 1 k z z z z z z z z z z z z fun Bg a k e m Aq=>nn (wr (pN 3 k z fun a k=>nn (wr (pN 3 k z fun a k=>oE h fun Am Ai h=>?_)))))))))))
     refine sv k z (r_ixa (Enc.ow_rd Aq) Ai k ts27 z z z) fun a k=>sv k z (r_fa fa38_2 k z z) fun a k=>s_ste (α:=Typ) (sz:=7) (y:={ Am with fH:=w64 ((w64 (Aa + 1)) + 1) }) sizeOf3 Ai m 0 Aq 2 k z z z z z z z z z z z z fun Bm a k e m Ax=>?_
     have k:=k.keep [0,1,5] z
     refine nn (wr (pN 3 k z fun a k=>nn (wr (pN 3 k z fun a k=>oE h fun Au Aj h=>sv k z (r_ixa (Enc.ow_rd Ax) Aj k ts27 z z z) fun a k=>sv k z (r_fa fa38_3 k z z) fun a k=>s_ste (α:=Typ) (sz:=7) (y:={ Au with fD:=w64 ((w64 ((w64 (Aa + 1)) + 1)) + 1) }) sizeOf3 Aj m 0 Ax 3 k z z z z z z z z z z z z fun Bh a k e m As=>nn (wr (pN 3 k z fun a k=>nn (wr (pN 3 k z fun a k=>oE h fun Aw Ah h=>sv k z (r_ixa (Enc.ow_rd As) Ah k ts27 z z z) fun a k=>sv k z (r_fa fa38_4 k z z) fun a k=>s_ste (α:=Typ) (sz:=7) (y:={ Aw with fTare:=w64 ((w64 ((w64 ((w64 (Aa + 1)) + 1)) + 1)) + 1) }) sizeOf3 Ah m 0 As 4 k z z z z z z z z z z z z fun Bk a k e m Ar=>nn (wr (pN 3 k z fun a k=>nn (wr ?_)))))))))))
     refine pN 3 k z fun a k=>oE h fun At Ba h=>sv k z (r_ixa (Enc.ow_rd Ar) Ba k ts27 z z z) fun a k=>sv k z (r_fa fa38_5 k z z) fun a k=>s_ste (α:=Typ) (sz:=7) (y:={ At with fGram:=w64 ((w64 ((w64 ((w64 ((w64 (Aa + 1)) + 1)) + 1)) + 1)) + 1) }) sizeOf3 Ba m 0 Ar 5 k z z z z z z z z z z z z fun Bi a k e m Ay=>?_
     have k:=k.keep [0,1,5] z
     refine nn (wr (pN 3 k z fun a k=>nn (wr (pN 3 k z fun a k=>oE h fun Ao Bb h=>sv k z (r_ixa (Enc.ow_rd Ay) Bb k ts27 z z z) fun a k=>sv k z (r_fa fa38_6 k z z) fun a k=>s_ste (α:=Typ) (sz:=7) (y:={ Ao with fCost:=w64 ((w64 ((w64 ((w64 ((w64 ((w64 (Aa + 1)) + 1)) + 1)) + 1)) + 1)) + 1) }) sizeOf3 Bb m 0 Ay 6 k z z z z z z z z z z z z fun Bc a k e m Be=>nn (wp_region_lit (pN 3 k z fun a k=>wpList_nil (nm_block (nm_then ?_))))))))
     refine wp_region_lit (pN 3 k z fun a k=>nn ?_)
     exact ⟨setx (setx (setx (setx (setx (setx (setx Ad Ab ({ Az with fId:=Aa })) Ab ({ Al with fW:=w64 (Aa + 1) })) Ab ({ Am with fH:=w64 ((w64 (Aa + 1)) + 1) })) Ab ({ Au with fD:=w64 ((w64 ((w64 (Aa + 1)) + 1)) + 1) })) Ab ({ Aw with fTare:=w64 ((w64 ((w64 ((w64 (Aa + 1)) + 1)) + 1)) + 1) })) Ab ({ At with fGram:=w64 ((w64 ((w64 ((w64 ((w64 (Aa + 1)) + 1)) + 1)) + 1)) + 1) })) Ab ({ Ao with fCost:=w64 ((w64 ((w64 ((w64 ((w64 ((w64 (Aa + 1)) + 1)) + 1)) + 1)) + 1)) + 1) }),Bc,w64 ((w64 ((w64 ((w64 ((w64 ((w64 ((w64 (Aa + 1)) + 1)) + 1)) + 1)) + 1)) + 1)) + 1),w64 (Ab + 1),k.keep [0,1,5] z,m.sel [0] z (by decide),Be,h⟩
   refine wp_exit (ex_then (ex_then (ex_same (nm_then ?_))))
   refine wr (pN 2 k z fun a k=>nn (wp_ret ?_))
   cases h
   exact finR1 k z (RV.tmp k z) ⟨F3,z,m.ext,(fun b hb=>m.lo b (mem_fps (i:=0) z hb)),(Enc.ow_agr Ac (m.a 0 z))⟩
 exact ⟨a1,w0,Ag,0,k.keep [0,1,5] z,m.sel [0] z (by decide),Ae,h⟩
theorem c_laws_markItemS (fu:Nat) {w0:World} (a1:List Item) (Ag:Int) {v2:Value} {F3:List Nat} (Ae:ow w0 F3 [v2] a1) {r:Int × (List Item)}
    (h:d_laws_markItemS fu a1 Ag = some r) :
    Calls Tryz.prog 102 #[v2,I Ag] w0 fun e w=>∃ (H0:List Nat),e = .returned (I r.1) ∧ Ext F3 w0 w ∧ (∀ b ∈ H0,b ∈ F3 ∨ w0.heap.size ≤ b) ∧ ow w H0 [v2] r.2:=by
 refine enter (vs:=[_,_]) func102 z ntmps102 z fun a k=>?_
 have m:=St.start1 w0 (Enc.rd_lt (Enc.ow_rd Ae)) (Enc.ow_nd Ae)
 unfold d_laws_markItemS at h
 refine wr (pN 1 k z fun a k=>nn (wp_seq (wr (pN 1 k z fun a k=>nn (wp_block (c_loop (fun n a w=>∃ (Ad:List Item) (Af:World) (Aa:Int) (Ab:Int),K 62 [(0,v2),(1,I Aa),(5,I Ab)] a ∧ St F3 w0 w [(F3,Af)] ∧ ow Af F3 [v2] Ad ∧ d_laws_markItemS_L1 fu  n Ad Aa Ab = some r) ?_ ?_ fu _ _ ?_))))))
 · rintro a w ⟨_,_,_,_,_,_,_,h⟩
   exact nS h
 · rintro Bf a Bl ⟨Ad,Af,Aa,Ab,k,m,Ac,h⟩
   rw [d_laws_markItemS_L1_s] at h
   unfold d_laws_markItemS_L1_B at h
   refine wp_seq (wr (pN 2 k z fun a k=>sv k z (r_len (α:=Item) (Enc.ow_rd Ac) k underlying28 z z) fun a k=>pN 1 k z fun a k=>nn (cI h k z (fun Bd h=>?_) fun Bd h=>?_)))
   · refine wp_skip (nm_then ?_)
     refine wp_seq (wp_block (wr (pN 3 k z fun a k=>oE h fun Az Ak h=>sv k z (r_ixa (Enc.ow_rd Ac) Ak k ts28 z z z) fun a k=>sv k z (r_fa fa97_0 k z z) fun a k=>s_ste (α:=Item) (sz:=7) (y:={ Az with fId:=Aa }) sizeOf3 Ak m 0 Ac 0 k z z z z z z z z z z z z fun Bj a k e m Av=>nn (wr (pN 3 k z fun a k=>nn (wr (pN 3 k z fun a k=>oE h fun Al Ap h=>sv k z (r_ixa (Enc.ow_rd Av) Ap k ts28 z z z) fun a k=>sv k z (r_fa fa97_1 k z z) fun a k=>s_ste (α:=Item) (sz:=7) (y:={ Al with fW:=w64 (Aa + 1) }) sizeOf3 Ap m 0 Av 1 k z z z z z z z z z z z z fun Bg a k e m Aq=>nn (wr (pN 3 k z fun a k=>nn (wr (pN 3 k z fun a k=>oE h fun Am Ai h=>?_)))))))))))
     refine sv k z (r_ixa (Enc.ow_rd Aq) Ai k ts28 z z z) fun a k=>sv k z (r_fa fa97_2 k z z) fun a k=>s_ste (α:=Item) (sz:=7) (y:={ Am with fH:=w64 ((w64 (Aa + 1)) + 1) }) sizeOf3 Ai m 0 Aq 2 k z z z z z z z z z z z z fun Bm a k e m Ax=>?_
     have k:=k.keep [0,1,5] z
     refine nn (wr (pN 3 k z fun a k=>nn (wr (pN 3 k z fun a k=>oE h fun Au Aj h=>sv k z (r_ixa (Enc.ow_rd Ax) Aj k ts28 z z z) fun a k=>sv k z (r_fa fa97_3 k z z) fun a k=>s_ste (α:=Item) (sz:=7) (y:={ Au with fD:=w64 ((w64 ((w64 (Aa + 1)) + 1)) + 1) }) sizeOf3 Aj m 0 Ax 3 k z z z z z z z z z z z z fun Bh a k e m As=>nn (wr (pN 3 k z fun a k=>nn (wr (pN 3 k z fun a k=>oE h fun Aw Ah h=>sv k z (r_ixa (Enc.ow_rd As) Ah k ts28 z z z) fun a k=>sv k z (r_fa fa97_4 k z z) fun a k=>s_ste (α:=Item) (sz:=7) (y:={ Aw with fGram:=w64 ((w64 ((w64 ((w64 (Aa + 1)) + 1)) + 1)) + 1) }) sizeOf3 Ah m 0 As 4 k z z z z z z z z z z z z fun Bk a k e m Ar=>nn (wr (pN 3 k z fun a k=>nn (wr ?_)))))))))))
     refine pN 3 k z fun a k=>oE h fun At Ba h=>sv k z (r_ixa (Enc.ow_rd Ar) Ba k ts28 z z z) fun a k=>sv k z (r_fa fa97_5 k z z) fun a k=>s_ste (α:=Item) (sz:=7) (y:={ At with fClass:=w64 ((w64 ((w64 ((w64 ((w64 (Aa + 1)) + 1)) + 1)) + 1)) + 1) }) sizeOf3 Ba m 0 Ar 5 k z z z z z z z z z z z z fun Bi a k e m Ay=>?_
     have k:=k.keep [0,1,5] z
     refine nn (wr (pN 3 k z fun a k=>nn (wr (pN 3 k z fun a k=>oE h fun Ao Bb h=>sv k z (r_ixa (Enc.ow_rd Ay) Bb k ts28 z z z) fun a k=>sv k z (r_fa fa97_6 k z z) fun a k=>s_ste (α:=Item) (sz:=7) (y:={ Ao with fCount:=w64 ((w64 ((w64 ((w64 ((w64 ((w64 (Aa + 1)) + 1)) + 1)) + 1)) + 1)) + 1) }) sizeOf3 Bb m 0 Ay 6 k z z z z z z z z z z z z fun Bc a k e m Be=>nn (wp_region_lit (pN 3 k z fun a k=>wpList_nil (nm_block (nm_then ?_))))))))
     refine wp_region_lit (pN 3 k z fun a k=>nn ?_)
     exact ⟨setx (setx (setx (setx (setx (setx (setx Ad Ab ({ Az with fId:=Aa })) Ab ({ Al with fW:=w64 (Aa + 1) })) Ab ({ Am with fH:=w64 ((w64 (Aa + 1)) + 1) })) Ab ({ Au with fD:=w64 ((w64 ((w64 (Aa + 1)) + 1)) + 1) })) Ab ({ Aw with fGram:=w64 ((w64 ((w64 ((w64 (Aa + 1)) + 1)) + 1)) + 1) })) Ab ({ At with fClass:=w64 ((w64 ((w64 ((w64 ((w64 (Aa + 1)) + 1)) + 1)) + 1)) + 1) })) Ab ({ Ao with fCount:=w64 ((w64 ((w64 ((w64 ((w64 ((w64 (Aa + 1)) + 1)) + 1)) + 1)) + 1)) + 1) }),Bc,w64 ((w64 ((w64 ((w64 ((w64 ((w64 ((w64 (Aa + 1)) + 1)) + 1)) + 1)) + 1)) + 1)) + 1),w64 (Ab + 1),k.keep [0,1,5] z,m.sel [0] z (by decide),Be,h⟩
   refine wp_exit (ex_then (ex_then (ex_same (nm_then ?_))))
   refine wr (pN 2 k z fun a k=>nn (wp_ret ?_))
   cases h
   exact finR1 k z (RV.tmp k z) ⟨F3,z,m.ext,(fun b hb=>m.lo b (mem_fps (i:=0) z hb)),(Enc.ow_agr Ac (m.a 0 z))⟩
 exact ⟨a1,w0,Ag,0,k.keep [0,1,5] z,m.sel [0] z (by decide),Ae,h⟩
theorem c_laws_markRequest (fu:Nat) {w0:World} (a1:Request) (Ag:Int) {Ae:List Value} {F3:List Nat} (Ac:ow w0 F3 Ae a1) {r:Int × Request}
    (h:d_laws_markRequest fu a1 Ag = some r) :
    Calls Tryz.prog 31 #[.agg Ae.toArray,I Ag] w0 fun e w=>∃ (H0:List Nat),e = .returned (I r.1) ∧ Ext F3 w0 w ∧ (∀ b ∈ H0,b ∈ F3 ∨ w0.heap.size ≤ b) ∧ ow w H0 Ae r.2:=by
 refine enter (vs:=[_,_]) func31 z ntmps31 z fun a k=>?_
 have m:=St.start1 w0 (Enc.rd_lt (Enc.ow_rd Ac)) (Enc.ow_nd Ac)
 obtain ⟨v6,F7,v9,Bf,Ao,Bc,rfl,rfl,Al,Aj,At,_⟩:=Ac
 have m:=m.split2
 have m:=m.split2at1
 unfold d_laws_markRequest at h
 refine wr (s_box (cs:=[I a1.fWay,I a1.fPallet.fW,I a1.fPallet.fD,I a1.fPallet.fH,I a1.fPallet.fGram,I a1.fClasses,v6,v9,I a1.fMaster,Ao]) m k z z z z z z fun Be Bh a k m e Aa=>pN 1 k z fun a k=>nn (wr (sv k z (r_fa fa30_3 k z z) fun a k=>sv k z (r_ldb t126 m 0 Aa 6 k z z z z z) fun a k=>pN 1 k z fun a k=>oE h fun Ay Ak h=>s_call k call100 z z z z z (c_laws_markPairS fu _ _ (Enc.ow_agr Al (m.a 1 z)) Ak) fun Bb Ax hR=>?_)))
 obtain ⟨Ai,rfl,e,As,Af⟩:=hR
 refine ⟨_,z,fun a k=>?_⟩
 have m:=m.mut 1 z e _ (fun b hb=>⟨As b hb,Enc.rd_lt (Enc.ow_rd Af) b hb⟩) (Enc.ow_nd Af)
 refine pN 1 k z fun a k=>nn (wr (sv k z (r_fa fa30_4 k z z) fun a k=>sv k z (r_ldb t127 m 0 Aa 7 k z z z z z) fun a k=>pN 1 k z fun a k=>oE h fun Ba Aq h=>s_call k call101 z z z z z (c_laws_markTypeS fu _ _ (Enc.ow_agr Aj (m.a 2 z)) Aq) fun Bd Az hR=>?_))
 obtain ⟨Ap,rfl,e,Au,Ad⟩:=hR
 refine ⟨_,z,fun a k=>?_⟩
 have m:=m.mut 2 z e _ (fun b hb=>⟨Au b hb,Enc.rd_lt (Enc.ow_rd Ad) b hb⟩) (Enc.ow_nd Ad)
 refine pN 1 k z fun a k=>nn (wr (sv k z (r_fa fa30_6 k z z) fun a k=>sv k z (r_ldb t128 m 0 Aa 9 k z z z z z) fun a k=>pN 1 k z fun a k=>oE h fun Av Ah h=>s_call k call102 z z z z z (c_laws_markItemS fu _ _ (Enc.ow_agr At (m.a 3 z)) Ah) fun Aw Bg hR=>?_))
 obtain ⟨Am,rfl,e,Ar,Ab⟩:=hR
 refine ⟨_,z,fun a k=>?_⟩
 have m:=m.mut 3 z e _ (fun b hb=>⟨Ar b hb,Enc.rd_lt (Enc.ow_rd Ab) b hb⟩) (Enc.ow_nd Ab)
 refine pN 1 k z fun a k=>nn (wr (pN 2 k z fun a k=>nn (wp_ret ?_)))
 cases h
 exact finR1 k z (RV.tmp k z) ⟨Ai ++ (Ap ++ (Am)),z,m.ext,(fun b hb=>(m.sel [1,2,3] z (by decide)).lo b (by simpa [fps] using hb)),⟨_,_,_,_,_,_,z,z,(Enc.ow_agr Af (m.a 1 z)),(Enc.ow_agr Ad (m.a 2 z)),(Enc.ow_agr Ab (m.a 3 z)),by simpa [fps] using (m.sel [1,2,3] z (by decide)).nd⟩⟩
theorem c_laws_markIntS (fu:Nat) {w0:World} (a1:List Int) (Af:Int) {v2:Value} {F3:List Nat} (Ae:ow w0 F3 [v2] a1) {r:Int × (List Int)}
    (h:d_laws_markIntS fu a1 Af = some r) :
    Calls Tryz.prog 55 #[v2,I Af] w0 fun e w=>∃ (H0:List Nat),e = .returned (I r.1) ∧ Ext F3 w0 w ∧ (∀ b ∈ H0,b ∈ F3 ∨ w0.heap.size ≤ b) ∧ ow w H0 [v2] r.2:=by
 refine enter (vs:=[_,_]) func55 z ntmps55 z fun a k=>?_
 have m:=St.start1 w0 (Enc.rd_lt (Enc.ow_rd Ae)) (Enc.ow_nd Ae)
 unfold d_laws_markIntS at h
 refine wr (pN 1 k z fun a k=>nn (wp_seq (wr (pN 1 k z fun a k=>nn (wp_block (c_loop (fun n a w=>∃ (Ad:List Int) (Ag:World) (Aa:Int) (Ab:Int),K 19 [(0,v2),(1,I Aa),(5,I Ab)] a ∧ St F3 w0 w [(F3,Ag)] ∧ ow Ag F3 [v2] Ad ∧ d_laws_markIntS_L1 fu  n Ad Aa Ab = some r) ?_ ?_ fu _ _ ?_))))))
 · rintro a w ⟨_,_,_,_,_,_,_,h⟩
   exact nS h
 · rintro Al a Am ⟨Ad,Ag,Aa,Ab,k,m,Ac,h⟩
   rw [d_laws_markIntS_L1_s] at h
   unfold d_laws_markIntS_L1_B at h
   refine wp_seq (wr (pN 2 k z fun a k=>sv k z (r_len (α:=Int) (Enc.ow_rd Ac) k underlying31 z z) fun a k=>pN 1 k z fun a k=>nn (cI h k z (fun Aj h=>?_) fun Aj h=>?_)))
   · refine wp_skip (nm_then ?_)
     refine wp_seq (wp_block (wr (pN 3 k z fun a k=>oE h fun Ao Ah h=>sv k z (r_ixa (Enc.ow_rd Ac) Ah k ts31 z z z) fun a k=>s_ste (α:=Int) (sz:=1) (y:=Aa) sizeOf3 Ah m 0 Ac 0 k z z z z z z z z z z z z fun Ai a k e m Ak=>nn (wp_region_lit (pN 3 k z fun a k=>wpList_nil (nm_block (nm_then ?_)))))))
     refine wp_region_lit (pN 3 k z fun a k=>nn ?_)
     exact ⟨setx Ad Ab Aa,Ai,w64 (Aa + 1),w64 (Ab + 1),k.keep [0,1,5] z,m.sel [0] z (by decide),Ak,h⟩
   refine wp_exit (ex_then (ex_then (ex_same (nm_then ?_))))
   refine wr (pN 2 k z fun a k=>nn (wp_ret ?_))
   cases h
   exact finR1 k z (RV.tmp k z) ⟨F3,z,m.ext,(fun b hb=>m.lo b (mem_fps (i:=0) z hb)),(Enc.ow_agr Ac (m.a 0 z))⟩
 exact ⟨a1,w0,Af,0,k.keep [0,1,5] z,m.sel [0] z (by decide),Ae,h⟩
theorem c_laws_markCartonS (fu:Nat) {w0:World} (a1:List Carton) (Au:Int) {v2:Value} {F3:List Nat} (Ao:ow w0 F3 [v2] a1) {r:Int × (List Carton)}
    (h:d_laws_markCartonS fu a1 Au = some r) :
    Calls Tryz.prog 136 #[v2,I Au] w0 fun e w=>∃ (H0:List Nat),e = .returned (I r.1) ∧ Ext F3 w0 w ∧ (∀ b ∈ H0,b ∈ F3 ∨ w0.heap.size ≤ b) ∧ ow w H0 [v2] r.2:=by
 refine enter (vs:=[_,_]) func136 z ntmps136 z fun a k=>?_
 have m:=St.start1 w0 (Enc.rd_lt (Enc.ow_rd Ao)) (Enc.ow_nd Ao)
 unfold d_laws_markCartonS at h
 refine wr (pN 1 k z fun a k=>nn (wp_seq (wr (pN 1 k z fun a k=>nn (wp_block (c_loop (fun n a w=>∃ (Ag:List Carton) (At:World) (Ah:List Nat) (Aa:Int) (Ab:Int),K 34 [(0,v2),(1,I Aa),(5,I Ab)] a ∧ St F3 w0 w [(Ah,At)] ∧ ow At Ah [v2] Ag ∧ d_laws_markCartonS_L1 fu  n Ag Aa Ab = some r) ?_ ?_ fu _ _ ?_))))))
 · rintro a w ⟨_,_,_,_,_,_,_,_,h⟩
   exact nS h
 · rintro Db a Cd ⟨Ag,At,Ah,Aa,Ab,k,m,Af,h⟩
   rw [d_laws_markCartonS_L1_s] at h
   unfold d_laws_markCartonS_L1_B at h
   refine wp_seq (wr (pN 2 k z fun a k=>sv k z (r_len (α:=Carton) (Enc.ow_rd Af) k underlying43 z z) fun a k=>pN 1 k z fun a k=>nn (cI h k z (fun Bm h=>?_) fun Bm h=>?_)))
   · refine wp_skip (nm_then ?_)
     refine wp_seq (wp_block (wr (pN 3 k z fun a k=>oE h fun Ac Al h=>sv k z (r_ixa (Enc.ow_rd Af) Al k ts43 z z z) fun a k=>sv k z (r_fa fa33_0 k z z) fun a k=>?_)))
     obtain ⟨Da,Cu,Ch,Bt,Bn,Cg⟩:=rd_get (Enc.ow_rd Af) (ix_some Al).2.2
     obtain ⟨Aq,_,rfl,rfl,Cn⟩:=Bt
     obtain ⟨Cp,By,m,Cb,Br⟩:=m.opn 0 z Af Al Bn z (M':=[]) z
     obtain ⟨Bs,_,Bp,rfl,Be,_⟩:=Br
     obtain rfl:Aq = Bs:=by simpa using Bp
     refine s_stH (α:=Carton) (sz:=3) (cs':=[I Aa,I Ac.fGroup,Aq]) sizeOf3 m 0 Cb 0 k z z z z z z z z z (allc z alln) z z fun Ay a k e m Bf=>?_
     obtain ⟨Cv,m,Ak⟩:=(m.sel [0,1] z (by decide)).cls Bf (show ow Cd By [I Aa,I Ac.fGroup,Aq] ((⟨Aa,Ac.fGroup,Ac.fUnits⟩:Carton):Carton) from ⟨_,_,z,z,Be,(m.ndF 1 z)⟩)
     refine nn (wr (pN 3 k z fun a k=>nn (wr (pN 3 k z fun a k=>oE h fun Ae Ap h=>sv k z (r_ixa (Enc.ow_rd Ak) Ap k ts43 z z z) fun a k=>sv k z (r_fa fa33_1 k z z) fun a k=>?_))))
     obtain ⟨Ci,Cy,Cq,Az,Bq,Cr⟩:=rd_get (Enc.ow_rd Ak) (ix_some Ap).2.2
     obtain ⟨Aj,_,rfl,rfl,Cl⟩:=Az
     obtain ⟨Cm,Bo,m,Bu,Ba⟩:=m.opn 0 z Ak Ap Bq z (M':=[]) z
     obtain ⟨Ce,_,Bd,rfl,Bx,_⟩:=Ba
     obtain rfl:Aj = Ce:=by simpa using Bd
     refine s_stH (α:=Carton) (sz:=3) (cs':=[I Ae.fType,I (w64 (Aa + 1)),Aj]) sizeOf3 m 0 Bu 1 k z z z z z z z z z (allc z alln) z z fun Cs a k e m Bw=>?_
     obtain ⟨Cf,m,Am⟩:=(m.sel [0,1] z (by decide)).cls Bw (show ow Ay Bo [I Ae.fType,I (w64 (Aa + 1)),Aj] ((⟨Ae.fType,w64 (Aa + 1),Ae.fUnits⟩:Carton):Carton) from ⟨_,_,z,z,Bx,(m.ndF 1 z)⟩)
     refine nn (wr (pN 3 k z fun a k=>nn (wp_region_lit (pN 2 k z fun a k=>oE h fun Ad As h=>sv k z (r_ixa (Enc.ow_rd Am) As k ts43 z z z) fun a k=>sv k z (r_fa fa33_2 k z z) fun a k=>?_))))
     obtain ⟨Cx,Co,Cj,Bk,Ax,Bl⟩:=rd_get (Enc.ow_rd Am) (ix_some As).2.2
     obtain ⟨Aw,_,rfl,rfl,Cw⟩:=Bk
     refine sv k z (r_ld1 t131 ((Ax.agr (m.a 0 z) Bl).fld 2 1 (Nat.le_of_ble_eq_true z)) k z z) fun a k=>pN 1 k z fun a k=>?_
     obtain ⟨Ck,Ct,m,Bb,Bv⟩:=m.opn 0 z Am As Ax z (M':=[]) z
     obtain ⟨Bz,_,Cc,rfl,Bg,_⟩:=Bv
     obtain rfl:Aw = Bz:=by simpa using Cc
     refine oE h fun Ai Bi h=>s_call k call55 z z z z z (c_laws_markIntS fu _ _ (Enc.ow_agr Bg (m.a 1 z)) Bi) fun Cz Av hR=>?_
     obtain ⟨Ca,rfl,e,Bj,Ar⟩:=hR
     refine ⟨_,z,fun a k=>?_⟩
     have m:=m.mut 1 z e _ (fun b hb=>⟨Bj b hb,Enc.rd_lt (Enc.ow_rd Ar) b hb⟩) (Enc.ow_nd Ar)
     obtain ⟨Bh,m,Bc⟩:=(m.sel [0,1] z (by decide)).cls Bb (show ow Av Ca [I Ad.fType,I Ad.fGroup,Aw] ((⟨Ad.fType,Ad.fGroup,Ai.2⟩:Carton):Carton) from ⟨_,_,z,z,Ar,(m.ndF 1 z)⟩)
     refine pN 1 k z fun a k=>?_
     have k:=k.keep [0,1,5] z
     refine wpList_nil (nm_block (nm_then ?_))
     refine wp_region_lit (pN 3 k z fun a k=>nn ?_)
     exact ⟨setx (setx (setx Ag Ab ((⟨Aa,Ac.fGroup,Ac.fUnits⟩:Carton))) Ab ((⟨Ae.fType,w64 (Aa + 1),Ae.fUnits⟩:Carton))) Ab ((⟨Ad.fType,Ad.fGroup,Ai.2⟩:Carton)),Av,Bh,Ai.1,w64 (Ab + 1),k.keep [0,1,5] z,m.sel [0] z (by decide),Bc,h⟩
   refine wp_exit (ex_then (ex_then (ex_same (nm_then ?_))))
   refine wr (pN 2 k z fun a k=>nn (wp_ret ?_))
   cases h
   exact finR1 k z (RV.tmp k z) ⟨Ah,z,m.ext,(fun b hb=>m.lo b (mem_fps (i:=0) z hb)),(Enc.ow_agr Af (m.a 0 z))⟩
 exact ⟨a1,w0,F3,Au,0,k.keep [0,1,5] z,m.sel [0] z (by decide),Ao,h⟩

end Go.Proofs.YtlmibnlfkmiikaaGreat
