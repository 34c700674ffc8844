/- FnExactFeasible: the walks of functions that it reaches (ExactFeasibleBWi,part 1). Printed by gen.py. -/
import Derived.Test.YtkkfmjpbiimkbaaGreatExactFeasibleBT
set_option maxRecDepth 20000
set_option linter.unusedSimpArgs false
set_option linter.unusedVariables false
namespace Go.Proofs.YtkkfmjpbiimkbaaGreat
open Go Go.RowKit
open Enc (rd ow)
open Arg (argv)
open Ret (retv)
open Go.Proofs.Tryz


theorem c_impl_TypeById_1 (fu:Nat) {w0:World} (t1:Typ) (x2:Int) {b3:Nat} (Aa:bx w0 b3 [I x2] 3) {r:Bool}
    (h:d_impl_TypeById_1 fu t1 x2 = some r) :
    Calls Tryz.prog 146 #[.agg (Flat.e (t1)).toArray,.pointer (some (⟨b3,0,none⟩:Addr))] w0 fun e w=>e = .returned (.bool (r)) ∧ Ext [] w0 w:=by
 refine enter (vs:=[_,_]) func146 z ntmps146 z fun a k=>?_
 have m:=St.start w0
 unfold d_impl_TypeById_1 at h
 refine wr (s_box (cs:=[I t1.fId,I t1.fW,I t1.fH,I t1.fD,I t1.fTare,I t1.fGram,I t1.fCost]) m k z z z z z z fun b5 w7 a k m e Ab=>pN 1 k z fun a k=>nn (wr (sv k z (r_fa fa79_0 k z z) fun a k=>sv k z (r_ldb t13 m 0 Ab 0 k z z z z z) fun a k=>sv k z (r_ld1 t13 (r:=[]) (Aa.at (m.a00 Aa.lt1) 0 1 z z z) k z z) fun a k=>pN 2 k z fun a k=>nn (wp_ret (fS h k m z z)))))
theorem c_slices_IndexFunc_impl_Type_impl_Type (fu:Nat) {w0:World} (Aa:List Typ) (f5:Typ → Option Bool) {v2:Value} {F3:List Nat} (Ab:rd w0 F3 [v2] Aa) {v6:Value} (Ag:FnOk1 Tryz.prog w0 v6 f5) {r:Int}
    (h:d_slices_IndexFunc_impl_Type_impl_Type fu Aa f5 = some r) :
    Calls Tryz.prog 145 #[v2,v6] w0 fun e w=>e = .returned (I r) ∧ Ext [] w0 w:=by
 refine enter (vs:=[_,_]) func145 z ntmps145 z fun a k=>?_
 have m:=St.start w0
 obtain ⟨Ai,Ak,rfl,Ah,Af⟩:=Ag
 unfold d_slices_IndexFunc_impl_Type_impl_Type at h
 refine wr (pN 1 k z fun a k=>nn (wp_seq (wr (pN 1 k z fun a k=>sv k z (r_len (α:=Typ) Ab k underlying35 z z) fun a k=>pN 1 k z fun a k=>nn (wp_block (c_loop (fun n a w=>∃ (Ac:Int),K 19 [(0,v2),(1,(.func (.func Ai) #[] Ak.toArray)),(7,I ((Aa.length:Int))),(8,I Ac)] a ∧ St [] w0 w [] ∧ d_slices_IndexFunc_impl_Type_impl_Type_L1 fu Aa f5 n Ac = some r) ?_ ?_ fu _ _ ?_))))))
 · rintro a w ⟨_,_,_,h⟩
   exact nS h
 · rintro Ap a Aq ⟨Ac,k,m,h⟩
   rw [d_slices_IndexFunc_impl_Type_impl_Type_L1_s] at h
   unfold d_slices_IndexFunc_impl_Type_impl_Type_L1_B at h
   refine wr (pN 1 k z fun a k=>nn (wp_seq (cI h k z (fun Al h=>?_) fun Al h=>?_)))
   · refine wp_skip (nm_then ?_)
     refine wp_seq (wp_block (wr (pN 2 k z fun a k=>nn (wr (pN 3 k z fun a k=>oE h fun Am Ad h=>sv k z (r_ixa Ab Ad k ts35 z z z) fun a k=>sv k z (r_lde Ab (m.a00 (Enc.rd_lt Ab)) Ad ta79 k z z) fun a k=>oE h fun Ar Ae h=>s_callv k Ah z z z z z z (Af _ _ _ _ m.ext z Ae) fun As Ao hR=>?_)))))
     obtain ⟨rfl,e⟩:=hR
     refine ⟨_,z,fun a k=>?_⟩
     have m:=m.step e
     refine nn (cI h k z (fun Aj h=>?_) fun Aj h=>?_)
     · refine wr (pN 2 k z fun a k=>nn (wp_ret (rt_block (rt_then (rt_then (rt_block (rt_then ?_)))))))
       refine fS h k m z z
     refine wp_skip (nm_block (nm_then ?_))
     refine wp_region_lit (pN 2 k z fun a k=>nn ?_)
     exact ⟨w64 (Ac + 1),k.keep [0,1,7,8] z,m.sel [] z (by decide),h⟩
   refine wp_exit (ex_then (ex_then (ex_same (nm_then ?_))))
   refine wr (pN 1 k z fun a k=>nn (wp_ret (fS h k m z z)))
 exact ⟨0,k.keep [0,1,7,8] z,m.sel [] z (by decide),h⟩
theorem c_impl_TypeById (fu:Nat) {w0:World} (r1:Request) (Ac:Int) {Ag:List Value} {F3:List Nat} (Ap:rd w0 F3 Ag r1) {r:Typ × Bool}
    (h:d_impl_TypeById fu r1 Ac = some r) :
    Calls Tryz.prog 53 #[.agg Ag.toArray,I Ac] w0 fun e w=>e = .returned (.tuple #[.agg (Flat.e r.1).toArray,.bool (r.2)]) ∧ Ext [] w0 w:=by
 refine enter (vs:=[_,_]) func53 z ntmps53 z fun a k=>?_
 have m:=St.start w0
 obtain ⟨v6,F7,v8,F9,Aj,Ba,rfl,rfl,At,Ab,Ay⟩:=Ap
 unfold d_impl_TypeById at h
 refine wr (s_box (cs:=[I r1.fWay,I r1.fPallet.fW,I r1.fPallet.fD,I r1.fPallet.fH,I r1.fPallet.fGram,I r1.fClasses,v6,v8,I r1.fMaster,Aj]) m k z z z z z z fun Aw As a k m e Ae=>s_box (cs:=[I Ac]) m k z z z z z z fun Ai Az a k m e Am=>s_alloc (cs:=[I 0,I 0,I 0,I 0,I 0,I 0,I 0]) m k zeroValue79 z z z z z fun Av Bb a k m e Ad=>pN 1 k z fun a k=>nn (wr (sv k z (r_fa fa38_4 k z z) fun a k=>sv k z (r_ldb t135 m 2 Ae 7 k z z z z z) fun a k=>pN 1 k z fun a k=>oE h fun Bd Ah h=>?_)))
 refine cE k m call145 z z z (c_slices_IndexFunc_impl_Type_impl_Type fu _ _ (Enc.rd_agr Ab (m.a00 (Enc.rd_lt Ab))) ⟨146,[.pointer (some (⟨Ai,0,none⟩:Addr))],z,call146,fun w Ar Ax r e Al hx=>by subst Al; have m:=m.step e; exact c_impl_TypeById_1 fu _ _ (Am.agr (m.a 1 rfl) (by simp)) hx⟩ Ah) fun Au e a k m=>pN 1 k rfl fun a k=>nn (wp_seq (wr (pN 2 k rfl fun a k=>nn (cI h k rfl (fun Ak h=>?_) fun Ak h=>?_))))
 · refine wr (sv k z (r_build bt79 k (cs:=#[I 0,I 0,I 0,I 0,I 0,I 0,I 0]) (ps:=[]) z z (by kernel_rfl)) fun a k=>s_stb (cs':=[I 0,I 0,I 0,I 0,I 0,I 0,I 0]) sizeOf79 m 0 Ad 0 k z z z z z z z z z z z fun Bc a k e m Ao=>pN 1 k z fun a k=>nn (wp_ret (rt_then ?_)))
   cases h
   exact finR2 k z (RV.cA k z ta79 (Ao.at (m.a 0 z) 0 7 z z z) z) (RV.tmp k z) ⟨z,m.ext⟩
 refine wp_skip (nm_then ?_)
 refine wr (sv k z (r_fa fa38_4 k z z) fun a k=>sv k z (r_ldb t135 m 2 Ae 7 k z z z z z) fun a k=>pN 1 k z fun a k=>oE h fun Aa Af h=>sv k z (r_ixa Ab Af k ts35 z z z) fun a k=>sv k z (r_lde Ab (m.a00 (Enc.rd_lt Ab)) Af ta79 k z z) fun a k=>s_stb (cs':=[I Aa.fId,I Aa.fW,I Aa.fH,I Aa.fD,I Aa.fTare,I Aa.fGram,I Aa.fCost]) sizeOf79 m 0 Ad 0 k z z z z z z z z z z z fun Be a k e m Aq=>pN 1 k z fun a k=>nn (wp_ret ?_))
 cases h
 exact finR2 k z (RV.cA k z ta79 (Aq.at (m.a 0 z) 0 7 z z z) z) (RV.tmp k z) ⟨z,m.ext⟩
theorem c_impl_MasterOf (fu:Nat) {w0:World} (r1:Request) {Ac:List Value} {F3:List Nat} (Ai:rd w0 F3 Ac r1) {r:Typ × Bool}
    (h:d_impl_MasterOf fu r1 = some r) :
    Calls Tryz.prog 250 #[.agg Ac.toArray] w0 fun e w=>e = .returned (.tuple #[.agg (Flat.e r.1).toArray,.bool (r.2)]) ∧ Ext [] w0 w:=by
 refine enter (vs:=[_]) func250 z ntmps250 z fun a k=>?_
 have m:=St.start w0
 obtain ⟨v5,F6,v7,F8,v9,Am,rfl,rfl,Ad,Af,Ab⟩:=Ai
 unfold d_impl_MasterOf at h
 refine wr (s_box (cs:=[I r1.fWay,I r1.fPallet.fW,I r1.fPallet.fD,I r1.fPallet.fH,I r1.fPallet.fGram,I r1.fClasses,v5,v7,I r1.fMaster,v9]) m k z z z z z z fun Ak Aq a k m e Ae=>s_alloc (cs:=[I 0,I 0,I 0,I 0,I 0,I 0,I 0]) m k zeroValue79 z z z z z fun Ar Ao a k m e Ag=>pN 1 k z fun a k=>nn (wr (sv k z (r_ldB ta38 m 1 Ae 0 k z z z z z z) fun a k=>sv k z (r_fa fa38_5 k z z) fun a k=>sv k z (r_ldb t13 m 1 Ae 8 k z z z z z) fun a k=>oE h fun Aa Aj h=>?_)))
 refine cE k m call53 z z z (c_impl_TypeById fu _ _ (show rd _ _ [I r1.fWay,I r1.fPallet.fW,I r1.fPallet.fD,I r1.fPallet.fH,I r1.fPallet.fGram,I r1.fClasses,v5,v7,I r1.fMaster,v9] (r1:Request) from ⟨_,_,_,_,_,_,z,z,(Enc.rd_agr Ad (m.a00 (Enc.rd_lt Ad))),(Enc.rd_agr Af (m.a00 (Enc.rd_lt Af))),(Enc.rd_agr Ab (m.a00 (Enc.rd_lt Ab)))⟩) Aj) fun Ap e a k m=>pN 2 k z fun a k=>s_stb (cs':=[I Aa.1.fId,I Aa.1.fW,I Aa.1.fH,I Aa.1.fD,I Aa.1.fTare,I Aa.1.fGram,I Aa.1.fCost]) sizeOf79 m 0 Ag 0 k z z z z z z z z z z z fun Al a k e m Ah=>pN 1 k z fun a k=>nn (wp_ret ?_)
 cases h
 exact finR2 k z (RV.cA k z ta79 (Ah.at (m.a 0 z) 0 7 z z z) z) (RV.tmp k z) ⟨z,m.ext⟩
theorem c_impl_in (fu:Nat) {w0:World} (n1:Int) (Ab:Int) (Ac:Int)  {r:Bool}
    (h:d_impl_in fu n1 Ab Ac = some r) :
    Calls Tryz.prog 139 #[I n1,I Ab,I Ac] w0 fun e w=>e = .returned (.bool (r)) ∧ Ext [] w0 w:=by
 refine enter (vs:=[_,_,_]) func139 z ntmps139 z fun a k=>?_
 have m:=St.start w0
 unfold d_impl_in at h
 refine wr (pN 1 k z fun a k=>nn (wr (pN 4 k z fun a k=>bsplit (decide (n1 ≥ Ab)) (fun Aa=>?_) (fun Aa=>?_))))
 · have h:=bif_t Aa h
   refine rB k 10 z Aa fun k=>pN 5 k z fun a k=>nn (wp_ret (fS h k m z z))
 have h:=bif_f Aa h
 refine rB k 10 z Aa fun k=>pN 5 k z fun a k=>nn (wp_ret (fS h k m z z))
theorem c_impl_isSide (fu:Nat) {w0:World} (n1:Int)  {r:Bool}
    (h:d_impl_isSide fu n1 = some r) :
    Calls Tryz.prog 154 #[I n1] w0 fun e w=>e = .returned (.bool (r)) ∧ Ext [] w0 w:=by
 refine enter (vs:=[_]) func154 z ntmps154 z fun a k=>?_
 have m:=St.start w0
 unfold d_impl_isSide at h
 refine wr (pN 1 k z fun a k=>nn (wr (pN 1 k z fun a k=>oE h fun x2 Aa h=>cE k m call139 z z z (c_impl_in fu _ _ _  Aa) fun w5 e a k m=>pN 1 k z fun a k=>nn (wp_ret (fS h k m z z)))))
theorem c_impl_PalletOk (fu:Nat) {w0:World} (x1:Pallet)  {r:Bool}
    (h:d_impl_PalletOk fu x1 = some r) :
    Calls Tryz.prog 303 #[.agg (Flat.e (x1)).toArray] w0 fun e w=>e = .returned (.bool (r)) ∧ Ext [] w0 w:=by
 refine enter (vs:=[_]) func303 z ntmps303 z fun a k=>?_
 have m:=St.start w0
 unfold d_impl_PalletOk at h
 refine wr (s_box (cs:=[I x1.fW,I x1.fD,I x1.fH,I x1.fGram]) m k z z z z z z fun b2 w4 a k m e Ad=>pN 1 k z fun a k=>nn (wr (sv k z (r_fa fa33_0 k z z) fun a k=>sv k z (r_ldb t13 m 0 Ad 0 k z z z z z) fun a k=>oE h fun x5 Ag h=>cE k m call154 z z z (c_impl_isSide fu _  Ag) fun w9 e a k m=>pN 1 k z fun a k=>bsplit (x5) (fun Ab=>?_) (fun Ab=>?_))))
 · have h:=bif_t Ab h
   refine rB k 6 z Ab fun k=>sv k z (r_fa fa33_1 k z z) fun a k=>sv k z (r_ldb t13 m 0 Ad 1 k z z z z z) fun a k=>oE h fun Ae Aj h=>cE k m call154 z z z (c_impl_isSide fu _  Aj) fun Ak e a k m=>pN 2 k z fun a k=>bsplit (Ae) (fun Ac=>?_) (fun Ac=>?_)
   · have h:=bif_t Ac h
     refine rB k 11 z Ac fun k=>sv k z (r_fa fa33_2 k z z) fun a k=>sv k z (r_ldb t13 m 0 Ad 2 k z z z z z) fun a k=>oE h fun Af Ai h=>cE k m call154 z z z (c_impl_isSide fu _  Ai) fun Am e a k m=>pN 2 k z fun a k=>bsplit (Af) (fun Aa=>?_) (fun Aa=>?_)
     · have h:=bif_t Aa h
       refine rB k 16 z Aa fun k=>sv k z (r_fa fa33_3 k z z) fun a k=>sv k z (r_ldb t13 m 0 Ad 3 k z z z z z) fun a k=>oE h fun Ao Ah h=>cE k m call139 z z z (c_impl_in fu _ _ _  Ah) fun Al e a k m=>pN 2 k z fun a k=>nn (wp_ret (fS h k m z z))
     have h:=bif_f Aa h
     refine rB k 16 z Aa fun k=>pN 5 k z fun a k=>nn (wp_ret (fS h k m z z))
   have h:=bif_f Ac h
   refine rB k 11 z Ac fun k=>pN 10 k z fun a k=>nn (wp_ret (fS h k m z z))
 have h:=bif_f Ab h
 refine rB k 6 z Ab fun k=>pN 15 k z fun a k=>nn (wp_ret (fS h k m z z))
theorem c_slices_IndexFunc_impl_Pair_impl_Pair (fu:Nat) {w0:World} (Aa:List Pair) (f5:Pair → Option Bool) {v2:Value} {F3:List Nat} (Ab:rd w0 F3 [v2] Aa) {v6:Value} (Ag:FnOk1 Tryz.prog w0 v6 f5) {r:Int}
    (h:d_slices_IndexFunc_impl_Pair_impl_Pair fu Aa f5 = some r) :
    Calls Tryz.prog 329 #[v2,v6] w0 fun e w=>e = .returned (I r) ∧ Ext [] w0 w:=by
 refine enter (vs:=[_,_]) func329 z ntmps329 z fun a k=>?_
 have m:=St.start w0
 obtain ⟨Ai,Ak,rfl,Ah,Af⟩:=Ag
 unfold d_slices_IndexFunc_impl_Pair_impl_Pair at h
 refine wr (pN 1 k z fun a k=>nn (wp_seq (wr (pN 1 k z fun a k=>sv k z (r_len (α:=Pair) Ab k underlying34 z z) fun a k=>pN 1 k z fun a k=>nn (wp_block (c_loop (fun n a w=>∃ (Ac:Int),K 19 [(0,v2),(1,(.func (.func Ai) #[] Ak.toArray)),(7,I ((Aa.length:Int))),(8,I Ac)] a ∧ St [] w0 w [] ∧ d_slices_IndexFunc_impl_Pair_impl_Pair_L1 fu Aa f5 n Ac = some r) ?_ ?_ fu _ _ ?_))))))
 · rintro a w ⟨_,_,_,h⟩
   exact nS h
 · rintro Ap a Aq ⟨Ac,k,m,h⟩
   rw [d_slices_IndexFunc_impl_Pair_impl_Pair_L1_s] at h
   unfold d_slices_IndexFunc_impl_Pair_impl_Pair_L1_B at h
   refine wr (pN 1 k z fun a k=>nn (wp_seq (cI h k z (fun Al h=>?_) fun Al h=>?_)))
   · refine wp_skip (nm_then ?_)
     refine wp_seq (wp_block (wr (pN 2 k z fun a k=>nn (wr (pN 3 k z fun a k=>oE h fun Am Ad h=>sv k z (r_ixa Ab Ad k ts34 z z z) fun a k=>sv k z (r_lde Ab (m.a00 (Enc.rd_lt Ab)) Ad ta180 k z z) fun a k=>oE h fun Ar Ae h=>s_callv k Ah z z z z z z (Af _ _ _ _ m.ext z Ae) fun As Ao hR=>?_)))))
     obtain ⟨rfl,e⟩:=hR
     refine ⟨_,z,fun a k=>?_⟩
     have m:=m.step e
     refine nn (cI h k z (fun Aj h=>?_) fun Aj h=>?_)
     · refine wr (pN 2 k z fun a k=>nn (wp_ret (rt_block (rt_then (rt_then (rt_block (rt_then ?_)))))))
       refine fS h k m z z
     refine wp_skip (nm_block (nm_then ?_))
     refine wp_region_lit (pN 2 k z fun a k=>nn ?_)
     exact ⟨w64 (Ac + 1),k.keep [0,1,7,8] z,m.sel [] z (by decide),h⟩
   refine wp_exit (ex_then (ex_then (ex_same (nm_then ?_))))
   refine wr (pN 1 k z fun a k=>nn (wp_ret (fS h k m z z)))
 exact ⟨0,k.keep [0,1,7,8] z,m.sel [] z (by decide),h⟩
theorem c_slices_ContainsFunc_impl_Pair_impl_Pair (fu:Nat) {w0:World} (Aa:List Pair) (f5:Pair → Option Bool) {v2:Value} {F3:List Nat} (Ab:rd w0 F3 [v2] Aa) {v6:Value} (Ad:FnOk1 Tryz.prog w0 v6 f5) {r:Bool}
    (h:d_slices_ContainsFunc_impl_Pair_impl_Pair fu Aa f5 = some r) :
    Calls Tryz.prog 304 #[v2,v6] w0 fun e w=>e = .returned (.bool (r)) ∧ Ext [] w0 w:=by
 refine enter (vs:=[_,_]) func304 z ntmps304 z fun a k=>?_
 have m:=St.start w0
 obtain ⟨Ak,Aj,rfl,Ag,Ac⟩:=Ad
 unfold d_slices_ContainsFunc_impl_Pair_impl_Pair at h
 refine wr (pN 1 k z fun a k=>nn (wr (pN 2 k z fun a k=>oE h fun Ai Af h=>cE k m call329 z z z (c_slices_IndexFunc_impl_Pair_impl_Pair fu _ _ (Enc.rd_agr Ab (m.a00 (Enc.rd_lt Ab))) ⟨_,_,z,Ag,fun w Ae Ah r e=>Ac w Ae Ah r (m.ext.trans e (by simp))⟩ Af) fun Al e a k m=>pN 2 k z fun a k=>nn (wp_ret (fS h k m z z)))))
theorem c_impl_BoundsOk_1 (fu:Nat) {w0:World} (p1:Pair)  {r:Bool}
    (h:d_impl_BoundsOk_1 fu p1 = some r) :
    Calls Tryz.prog 305 #[.agg (Flat.e (p1)).toArray] w0 fun e w=>e = .returned (.bool (r)) ∧ Ext [] w0 w:=by
 refine enter (vs:=[_]) func305 z ntmps305 z fun a k=>?_
 have m:=St.start w0
 unfold d_impl_BoundsOk_1 at h
 refine wr (s_box (cs:=[I p1.fA,I p1.fB]) m k z z z z z z fun b2 w4 a k m e Ab=>pN 1 k z fun a k=>nn (wr (sv k z (r_fa fa180_0 k z z) fun a k=>sv k z (r_ldb t13 m 0 Ab 0 k z z z z z) fun a k=>oE h fun x5 Ac h=>cE k m call139 z z z (c_impl_in fu _ _ _  Ac) fun w9 e a k m=>pN 2 k z fun a k=>bsplit (!x5) (fun Aa=>?_) (fun Aa=>?_))))
 · have h:=bif_t Aa h
   refine rB k 7 z Aa fun k=>pN 6 k z fun a k=>nn (wp_ret (fS h k m z z))
 have h:=bif_f Aa h
 refine rB k 7 z Aa fun k=>sv k z (r_fa fa180_1 k z z) fun a k=>sv k z (r_ldb t13 m 0 Ab 1 k z z z z z) fun a k=>oE h fun Ae Ad h=>cE k m call139 z z z (c_impl_in fu _ _ _  Ad) fun Af e a k m=>pN 3 k z fun a k=>nn (wp_ret (fS h k m z z))
theorem c_slices_ContainsFunc_impl_Type_impl_Type (fu:Nat) {w0:World} (Aa:List Typ) (f5:Typ → Option Bool) {v2:Value} {F3:List Nat} (Ab:rd w0 F3 [v2] Aa) {v6:Value} (Ad:FnOk1 Tryz.prog w0 v6 f5) {r:Bool}
    (h:d_slices_ContainsFunc_impl_Type_impl_Type fu Aa f5 = some r) :
    Calls Tryz.prog 275 #[v2,v6] w0 fun e w=>e = .returned (.bool (r)) ∧ Ext [] w0 w:=by
 refine enter (vs:=[_,_]) func275 z ntmps275 z fun a k=>?_
 have m:=St.start w0
 obtain ⟨Ak,Aj,rfl,Ag,Ac⟩:=Ad
 unfold d_slices_ContainsFunc_impl_Type_impl_Type at h
 refine wr (pN 1 k z fun a k=>nn (wr (pN 2 k z fun a k=>oE h fun Ai Af h=>cE k m call145 z z z (c_slices_IndexFunc_impl_Type_impl_Type fu _ _ (Enc.rd_agr Ab (m.a00 (Enc.rd_lt Ab))) ⟨_,_,z,Ag,fun w Ae Ah r e=>Ac w Ae Ah r (m.ext.trans e (by simp))⟩ Af) fun Al e a k m=>pN 2 k z fun a k=>nn (wp_ret (fS h k m z z)))))
theorem c_impl_TypeOk (fu:Nat) {w0:World} (x1:Typ)  {r:Bool}
    (h:d_impl_TypeOk fu x1 = some r) :
    Calls Tryz.prog 307 #[.agg (Flat.e (x1)).toArray] w0 fun e w=>e = .returned (.bool (r)) ∧ Ext [] w0 w:=by
 refine enter (vs:=[_]) func307 z ntmps307 z fun a k=>?_
 have m:=St.start w0
 unfold d_impl_TypeOk at h
 refine wr (s_box (cs:=[I x1.fId,I x1.fW,I x1.fH,I x1.fD,I x1.fTare,I x1.fGram,I x1.fCost]) m k z z z z z z fun b2 w4 a k m e Aa=>pN 1 k z fun a k=>nn (wr (sv k z (r_fa fa79_0 k z z) fun a k=>sv k z (r_ldb t13 m 0 Aa 0 k z z z z z) fun a k=>oE h fun x5 Ao h=>cE k m call139 z z z (c_impl_in fu _ _ _  Ao) fun w9 e a k m=>pN 1 k z fun a k=>bsplit (x5) (fun Ad=>?_) (fun Ad=>?_))))
 · have h:=bif_t Ad h
   refine rB k 6 z Ad fun k=>sv k z (r_fa fa79_1 k z z) fun a k=>sv k z (r_ldb t13 m 0 Aa 1 k z z z z z) fun a k=>oE h fun Aj Ar h=>cE k m call154 z z z (c_impl_isSide fu _  Ar) fun Aw e a k m=>pN 2 k z fun a k=>bsplit (Aj) (fun Ae=>?_) (fun Ae=>?_)
   · have h:=bif_t Ae h
     refine rB k 11 z Ae fun k=>sv k z (r_fa fa79_2 k z z) fun a k=>sv k z (r_ldb t13 m 0 Aa 2 k z z z z z) fun a k=>oE h fun As Ak h=>cE k m call154 z z z (c_impl_isSide fu _  Ak) fun Au e a k m=>pN 2 k z fun a k=>bsplit (As) (fun Ac=>?_) (fun Ac=>?_)
     · have h:=bif_t Ac h
       refine rB k 16 z Ac fun k=>sv k z (r_fa fa79_3 k z z) fun a k=>sv k z (r_ldb t13 m 0 Aa 3 k z z z z z) fun a k=>oE h fun Ai At h=>cE k m call154 z z z (c_impl_isSide fu _  At) fun Ba e a k m=>pN 2 k z fun a k=>bsplit (Ai) (fun Ag=>?_) (fun Ag=>?_)
       · have h:=bif_t Ag h
         refine rB k 21 z Ag fun k=>sv k z (r_fa fa79_4 k z z) fun a k=>sv k z (r_ldb t13 m 0 Aa 4 k z z z z z) fun a k=>oE h fun Ap Al h=>cE k m call139 z z z (c_impl_in fu _ _ _  Al) fun Av e a k m=>pN 2 k z fun a k=>bsplit (Ap) (fun Ab=>?_) (fun Ab=>?_)
         · have h:=bif_t Ab h
           refine rB k 26 z Ab fun k=>sv k z (r_fa fa79_5 k z z) fun a k=>sv k z (r_ldb t13 m 0 Aa 5 k z z z z z) fun a k=>oE h fun Ah Am h=>cE k m call139 z z z (c_impl_in fu _ _ _  Am) fun Ay e a k m=>pN 2 k z fun a k=>bsplit (Ah) (fun Af=>?_) (fun Af=>?_)
           · have h:=bif_t Af h
             refine rB k 31 z Af fun k=>sv k z (r_fa fa79_6 k z z) fun a k=>sv k z (r_ldb t13 m 0 Aa 6 k z z z z z) fun a k=>oE h fun Ax Aq h=>cE k m call139 z z z (c_impl_in fu _ _ _  Aq) fun Az e a k m=>pN 2 k z fun a k=>?_
             have k:=k.keep [2] z
             refine nn (wp_ret (fS h k m z z))
           have h:=bif_f Af h
           refine rB k 31 z Af fun k=>pN 5 k z fun a k=>?_
           have k:=k.keep [2] z
           refine nn (wp_ret (fS h k m z z))
         have h:=bif_f Ab h
         refine rB k 26 z Ab fun k=>pN 10 k z fun a k=>?_
         have k:=k.keep [2] z
         refine nn (wp_ret (fS h k m z z))
       have h:=bif_f Ag h
       refine rB k 21 z Ag fun k=>pN 15 k z fun a k=>?_
       have k:=k.keep [2] z
       refine nn (wp_ret (fS h k m z z))
     have h:=bif_f Ac h
     refine rB k 16 z Ac fun k=>pN 20 k z fun a k=>?_
     have k:=k.keep [2] z
     refine nn (wp_ret (fS h k m z z))
   have h:=bif_f Ae h
   refine rB k 11 z Ae fun k=>pN 25 k z fun a k=>?_
   have k:=k.keep [2] z
   refine nn (wp_ret (fS h k m z z))
 have h:=bif_f Ad h
 refine rB k 6 z Ad fun k=>pN 30 k z fun a k=>?_
 have k:=k.keep [2] z
 refine nn (wp_ret (fS h k m z z))
theorem c_impl_BoundsOk_2 (fu:Nat) {w0:World} (t1:Typ)  {r:Bool}
    (h:d_impl_BoundsOk_2 fu t1 = some r) :
    Calls Tryz.prog 306 #[.agg (Flat.e (t1)).toArray] w0 fun e w=>e = .returned (.bool (r)) ∧ Ext [] w0 w:=by
 refine enter (vs:=[_]) func306 z ntmps306 z fun a k=>?_
 have m:=St.start w0
 unfold d_impl_BoundsOk_2 at h
 refine wr (s_box (cs:=[I t1.fId,I t1.fW,I t1.fH,I t1.fD,I t1.fTare,I t1.fGram,I t1.fCost]) m k z z z z z z fun b2 w4 a k m e Ab=>pN 1 k z fun a k=>nn (wr (sv k z (r_ldB ta79 m 0 Ab 0 k z z z z z z) fun a k=>oE h fun x5 Aa h=>cE k m call307 z z z (c_impl_TypeOk fu (t1:Typ)  Aa) fun w9 e a k m=>pN 2 k z fun a k=>nn (wp_ret (fS h k m z z)))))
theorem c_impl_ItemOk (fu:Nat) {w0:World} (x1:Item)  {r:Bool}
    (h:d_impl_ItemOk fu x1 = some r) :
    Calls Tryz.prog 308 #[.agg (Flat.e (x1)).toArray] w0 fun e w=>e = .returned (.bool (r)) ∧ Ext [] w0 w:=by
 refine enter (vs:=[_]) func308 z ntmps308 z fun a k=>?_
 have m:=St.start w0
 unfold d_impl_ItemOk at h
 refine wr (s_box (cs:=[I x1.fId,I x1.fW,I x1.fH,I x1.fD,I x1.fGram,I x1.fClass,I x1.fCount]) m k z z z z z z fun b2 w4 a k m e Aa=>pN 1 k z fun a k=>nn (wr (sv k z (r_fa fa158_0 k z z) fun a k=>sv k z (r_ldb t13 m 0 Aa 0 k z z z z z) fun a k=>oE h fun x5 Ao h=>cE k m call139 z z z (c_impl_in fu _ _ _  Ao) fun w9 e a k m=>pN 1 k z fun a k=>bsplit (x5) (fun Ad=>?_) (fun Ad=>?_))))
 · have h:=bif_t Ad h
   refine rB k 6 z Ad fun k=>sv k z (r_fa fa158_1 k z z) fun a k=>sv k z (r_ldb t13 m 0 Aa 1 k z z z z z) fun a k=>oE h fun Aj Ar h=>cE k m call154 z z z (c_impl_isSide fu _  Ar) fun Aw e a k m=>pN 2 k z fun a k=>bsplit (Aj) (fun Ae=>?_) (fun Ae=>?_)
   · have h:=bif_t Ae h
     refine rB k 11 z Ae fun k=>sv k z (r_fa fa158_2 k z z) fun a k=>sv k z (r_ldb t13 m 0 Aa 2 k z z z z z) fun a k=>oE h fun As Ak h=>cE k m call154 z z z (c_impl_isSide fu _  Ak) fun Au e a k m=>pN 2 k z fun a k=>bsplit (As) (fun Ac=>?_) (fun Ac=>?_)
     · have h:=bif_t Ac h
       refine rB k 16 z Ac fun k=>sv k z (r_fa fa158_3 k z z) fun a k=>sv k z (r_ldb t13 m 0 Aa 3 k z z z z z) fun a k=>oE h fun Ai At h=>cE k m call154 z z z (c_impl_isSide fu _  At) fun Ba e a k m=>pN 2 k z fun a k=>bsplit (Ai) (fun Ag=>?_) (fun Ag=>?_)
       · have h:=bif_t Ag h
         refine rB k 21 z Ag fun k=>sv k z (r_fa fa158_4 k z z) fun a k=>sv k z (r_ldb t13 m 0 Aa 4 k z z z z z) fun a k=>oE h fun Ap Al h=>cE k m call139 z z z (c_impl_in fu _ _ _  Al) fun Av e a k m=>pN 2 k z fun a k=>bsplit (Ap) (fun Ab=>?_) (fun Ab=>?_)
         · have h:=bif_t Ab h
           refine rB k 26 z Ab fun k=>sv k z (r_fa fa158_5 k z z) fun a k=>sv k z (r_ldb t13 m 0 Aa 5 k z z z z z) fun a k=>oE h fun Ah Am h=>cE k m call139 z z z (c_impl_in fu _ _ _  Am) fun Ay e a k m=>pN 2 k z fun a k=>bsplit (Ah) (fun Af=>?_) (fun Af=>?_)
           · have h:=bif_t Af h
             refine rB k 31 z Af fun k=>sv k z (r_fa fa158_6 k z z) fun a k=>sv k z (r_ldb t13 m 0 Aa 6 k z z z z z) fun a k=>oE h fun Ax Aq h=>cE k m call139 z z z (c_impl_in fu _ _ _  Aq) fun Az e a k m=>pN 2 k z fun a k=>?_
             have k:=k.keep [2] z
             refine nn (wp_ret (fS h k m z z))
           have h:=bif_f Af h
           refine rB k 31 z Af fun k=>pN 5 k z fun a k=>?_
           have k:=k.keep [2] z
           refine nn (wp_ret (fS h k m z z))
         have h:=bif_f Ab h
         refine rB k 26 z Ab fun k=>pN 10 k z fun a k=>?_
         have k:=k.keep [2] z
         refine nn (wp_ret (fS h k m z z))
       have h:=bif_f Ag h
       refine rB k 21 z Ag fun k=>pN 15 k z fun a k=>?_
       have k:=k.keep [2] z
       refine nn (wp_ret (fS h k m z z))
     have h:=bif_f Ac h
     refine rB k 16 z Ac fun k=>pN 20 k z fun a k=>?_
     have k:=k.keep [2] z
     refine nn (wp_ret (fS h k m z z))
   have h:=bif_f Ae h
   refine rB k 11 z Ae fun k=>pN 25 k z fun a k=>?_
   have k:=k.keep [2] z
   refine nn (wp_ret (fS h k m z z))
 have h:=bif_f Ad h
 refine rB k 6 z Ad fun k=>pN 30 k z fun a k=>?_
 have k:=k.keep [2] z
 refine nn (wp_ret (fS h k m z z))
theorem c_impl_BoundsOk (fu:Nat) {w0:World} (r1:Request) {As:List Value} {F3:List Nat} (Bl:rd w0 F3 As r1) {r:Bool}
    (h:d_impl_BoundsOk fu r1 = some r) :
    Calls Tryz.prog 271 #[.agg As.toArray] w0 fun e w=>e = .returned (.bool (r)) ∧ Ext [] w0 w:=by
 refine enter (vs:=[_]) func271 z ntmps271 z fun a k=>?_
 have m:=St.start w0
 obtain ⟨v5,F6,v7,F8,v9,Br,rfl,rfl,Ao,Am,Ah⟩:=Bl
 unfold d_impl_BoundsOk at h
 refine wr (s_box (cs:=[I r1.fWay,I r1.fPallet.fW,I r1.fPallet.fD,I r1.fPallet.fH,I r1.fPallet.fGram,I r1.fClasses,v5,v7,I r1.fMaster,v9]) m k z z z z z z fun Ak Ar a k m e Aa=>pN 1 k z fun a k=>nn (c_cut (fun a w=>K 70 [(1,.pointer (some (⟨Ak,0,none⟩:Addr)))] a ∧ St [] w0 w [([Ak],Ar)] ∧ d_impl_BoundsOk_J2 fu r1 = some r) ?_ ?_))
 · rintro a Cb ⟨k,m,h⟩
   unfold d_impl_BoundsOk_J2 at h
   refine wp_seq (wr (sv k z (r_fa fa38_3 k z z) fun a k=>sv k z (r_ldb t134 m 0 Aa 6 k z z z z z) fun a k=>oE h fun Bz Bk h=>cE k m call304 z z z (c_slices_ContainsFunc_impl_Pair_impl_Pair fu _ _ (Enc.rd_agr Ao (m.a00 (Enc.rd_lt Ao))) ⟨305,[],z,call305,fun w Ce Bt r e Bm hx=>by subst Bm; have m:=m.step e; exact c_impl_BoundsOk_1 fu _  hx⟩ Bk) fun Cc e a k m=>nn (cI h k rfl (fun Bn h=>?_) fun Bn h=>?_)))
   · refine wr (pN 1 k z fun a k=>nn (wp_ret (rt_then ?_)))
     refine fS h k m z z
   refine wp_skip (nm_then ?_)
   refine c_cut (fun a w=>K 70 [(1,.pointer (some (⟨Ak,0,none⟩:Addr)))] a ∧ St [] w0 w [([Ak],Ar)] ∧ d_impl_BoundsOk_J1 fu r1 = some r) ?_ ?_
   · rintro a Bx ⟨k,m,h⟩
     unfold d_impl_BoundsOk_J1 at h
     refine wr (pN 1 k z fun a k=>nn (wp_seq (wr (sv k z (r_fa fa38_6 k z z) fun a k=>sv k z (r_ldb t136 m 0 Aa 9 k z z z z z) fun a k=>sv k z (r_len (α:=Item) Ah k underlying36 z z) fun a k=>pN 1 k z fun a k=>nn (wp_block (c_loop (fun n a w=>∃ (Al:Int) (Aj:Int),K 70 [(3,I Al),(54,v9),(55,I ((r1.fItems.length:Int))),(56,I Aj)] a ∧ St [] w0 w [] ∧ d_impl_BoundsOk_L1 fu r1 n Al Aj = some r) ?_ ?_ fu _ _ ?_))))))
     · rintro a w ⟨_,_,_,_,h⟩
       exact nS h
     · rintro Cf a Ca ⟨Al,Aj,k,m,h⟩
       rw [d_impl_BoundsOk_L1_s] at h
       unfold d_impl_BoundsOk_L1_B at h
       refine wr (pN 1 k z fun a k=>nn (wp_seq (cI h k z (fun Ax h=>?_) fun Ax h=>?_)))
       · refine wp_skip (nm_then ?_)
         refine wp_seq (wp_block (wr (oE h fun Ab Aq h=>sv k z (r_ixa Ah Aq k ts36 z z z) fun a k=>sv k z (r_lde Ah (m.a00 (Enc.rd_lt Ah)) Aq ta158 k z z) fun a k=>s_alloc (cs:=[I 0,I 0,I 0,I 0,I 0,I 0,I 0]) m k zeroValue158 z z z z z fun Bv Cl a k m e Av=>s_stb (cs':=[I Ab.fId,I Ab.fW,I Ab.fH,I Ab.fD,I Ab.fGram,I Ab.fClass,I Ab.fCount]) sizeOf158 m 0 Av 0 k z z z z z z z z z z z fun Bu a k e m Ap=>nn (wp_seq (wr (sv k z (r_ldB ta158 m 0 Ap 0 k z z z z z z) fun a k=>oE h fun Cj Ay h=>cE k m call308 z z z (c_impl_ItemOk fu (Ab:Item)  Ay) fun Bs e a k m=>?_))))))
         refine pN 1 k z fun a k=>nn (cI h k z (fun Au h=>?_) fun Au h=>?_)
         · refine wr (pN 1 k z fun a k=>nn (wp_ret (rt_then (rt_block (rt_then (rt_then (rt_block (rt_then ?_))))))))
           refine fS h k m z z
         refine wp_skip (nm_then ?_)
         refine wp_region_lit (pN 1 k z fun a k=>sv k z (r_fa fa158_6 k z z) fun a k=>sv k z (r_ldb t13 m 0 Ap 6 k z z z z z) fun a k=>pN 2 k z fun a k=>wpList_nil (nm_block (nm_then ?_)))
         refine wp_region_lit (pN 2 k z fun a k=>nn ?_)
         exact ⟨w64 (Al + Ab.fCount),w64 (Aj + 1),k.keep [3,54,55,56] z,m.sel [] z (by decide),h⟩
       refine wp_exit (ex_then (ex_then (ex_same (nm_then ?_))))
       refine wr (pN 3 k z fun a k=>nn (wp_ret (fS h k m z z)))
     exact ⟨0,0,k.keep [3,54,55,56] z,m.sel [] z (by decide),h⟩
   refine wr (sv k z (r_fa fa38_4 k z z) fun a k=>sv k z (r_ldb t135 m 0 Aa 7 k z z z z z) fun a k=>sv k z (r_len (α:=Typ) Am k underlying35 z z) fun a k=>oE h fun Aw At h=>cE k m call139 z z z (c_impl_in fu _ _ _  At) fun Ck e a k m=>pN 2 k z fun a k=>bsplit (!Aw) (fun Ae=>?_) (fun Ae=>?_))
   · have h:=bif_t Ae h
     refine rB k 36 z Ae fun k=>pN 16 k z fun a k=>?_
     have k:=k.keep [1,52] z
     refine nn (wp_cond_true (k.ev z) (wr (pN 1 k z fun a k=>nn (wp_ret (rt_then ?_)))))
     refine fS h k m z z
   have h:=bif_f Ae h
   refine rB k 36 z Ae fun k=>sv k z (r_fa fa38_4 k z z) fun a k=>sv k z (r_ldb t135 m 0 Aa 7 k z z z z z) fun a k=>oE h fun Bc Bo h=>cE k m call275 z z z (c_slices_ContainsFunc_impl_Type_impl_Type fu _ _ (Enc.rd_agr Am (m.a00 (Enc.rd_lt Am))) ⟨306,[],z,call306,fun w Bq Cg r e Bd hx=>by subst Bd; have m:=m.step e; exact c_impl_BoundsOk_2 fu _  hx⟩ Bo) fun Bw e a k m=>pN 2 k rfl fun a k=>bsplit (Bc) (fun Ad=>?_) (fun Ad=>?_)
   · have h:=bif_t Ad h
     refine rB k 41 z Ad fun k=>pN 11 k z fun a k=>?_
     have k:=k.keep [1,52] z
     refine nn (wp_cond_true (k.ev z) (wr (pN 1 k z fun a k=>nn (wp_ret (rt_then ?_)))))
     refine fS h k m z z
   have h:=bif_f Ad h
   refine rB k 41 z Ad fun k=>sv k z (r_fa fa38_5 k z z) fun a k=>sv k z (r_ldb t13 m 0 Aa 8 k z z z z z) fun a k=>oE h fun Az Bj h=>cE k m call139 z z z (c_impl_in fu _ _ _  Bj) fun Ci e a k m=>pN 3 k z fun a k=>bsplit (!Az) (fun Ai=>?_) (fun Ai=>?_)
   · have h:=bif_t Ai h
     refine rB k 47 z Ai fun k=>pN 5 k z fun a k=>?_
     have k:=k.keep [1,52] z
     refine nn (wp_cond_true (k.ev z) (wr (pN 1 k z fun a k=>nn (wp_ret (rt_then ?_)))))
     refine fS h k m z z
   have h:=bif_f Ai h
   refine rB k 47 z Ai fun k=>sv k z (r_fa fa38_6 k z z) fun a k=>sv k z (r_ldb t136 m 0 Aa 9 k z z z z z) fun a k=>sv k z (r_len (α:=Item) Ah k underlying36 z z) fun a k=>pN 2 k z fun a k=>?_
   have k:=k.keep [1,52] z
   refine nn (cI h k z (fun Bh h=>?_) fun Bh h=>?_)
   · refine wr (pN 1 k z fun a k=>nn (wp_ret (rt_then ?_)))
     refine fS h k m z z
   refine wp_skip (nm_then ?_)
   exact ⟨k.keep [1] z,m.sel [0] z (by decide),h⟩
 refine wr (sv k z (r_fa fa38_0 k z z) fun a k=>sv k z (r_ldb t13 m 0 Aa 0 k z z z z z) fun a k=>oE h fun Bf Bp h=>cE k m call139 z z z (c_impl_in fu _ _ _  Bp) fun By e a k m=>pN 2 k z fun a k=>bsplit (!Bf) (fun Ag=>?_) (fun Ag=>?_))
 · have h:=bif_t Ag h
   refine rB k 10 z Ag fun k=>pN 17 k z fun a k=>nn (wp_cond_true (k.ev z) (wr (pN 1 k z fun a k=>?_)))
   have k:=k.keep [2] z
   refine nn (wp_ret (rt_then ?_))
   refine fS h k m z z
 have h:=bif_f Ag h
 refine rB k 10 z Ag fun k=>sv k z (r_fa fa38_1 k z z) fun a k=>sv k z (r_ldB ta33 m 0 Aa 1 k z z z z z z) fun a k=>oE h fun Be Bg h=>cE k m call303 z z z (c_impl_PalletOk fu (r1.fPallet:Pallet)  Bg) fun Cd e a k m=>pN 3 k z fun a k=>bsplit (!Be) (fun Ac=>?_) (fun Ac=>?_)
 · have h:=bif_t Ac h
   refine rB k 16 z Ac fun k=>pN 11 k z fun a k=>nn (wp_cond_true (k.ev z) (wr (pN 1 k z fun a k=>?_)))
   have k:=k.keep [2] z
   refine nn (wp_ret (rt_then ?_))
   refine fS h k m z z
 have h:=bif_f Ac h
 refine rB k 16 z Ac fun k=>sv k z (r_fa fa38_2 k z z) fun a k=>sv k z (r_ldb t13 m 0 Aa 5 k z z z z z) fun a k=>oE h fun Bb Ba h=>cE k m call139 z z z (c_impl_in fu _ _ _  Ba) fun Ch e a k m=>pN 3 k z fun a k=>bsplit (!Bb) (fun Af=>?_) (fun Af=>?_)
 · have h:=bif_t Af h
   refine rB k 22 z Af fun k=>pN 5 k z fun a k=>nn (wp_cond_true (k.ev z) (wr (pN 1 k z fun a k=>?_)))
   have k:=k.keep [2] z
   refine nn (wp_ret (rt_then ?_))
   refine fS h k m z z
 have h:=bif_f Af h
 refine rB k 22 z Af fun k=>sv k z (r_fa fa38_3 k z z) fun a k=>sv k z (r_ldb t134 m 0 Aa 6 k z z z z z) fun a k=>sv k z (r_len (α:=Pair) Ao k underlying34 z z) fun a k=>pN 2 k z fun a k=>nn (cI h k z (fun Bi h=>?_) fun Bi h=>?_)
 · refine wr (pN 1 k z fun a k=>?_)
   have k:=k.keep [2] z
   refine nn (wp_ret (rt_then ?_))
   refine fS h k m z z
 refine wp_skip (nm_then ?_)
 exact ⟨k.keep [1] z,m.sel [0] z (by decide),h⟩
theorem c_impl_namesOk_1 (fu:Nat) {w0:World} (q1:Typ) (x2:Typ) {b3:Nat} (Aa:bx w0 b3 [I x2.fId,I x2.fW,I x2.fH,I x2.fD,I x2.fTare,I x2.fGram,I x2.fCost] 79) {r:Bool}
    (h:d_impl_namesOk_1 fu q1 x2 = some r) :
    Calls Tryz.prog 309 #[.agg (Flat.e (q1)).toArray,.pointer (some (⟨b3,0,none⟩:Addr))] w0 fun e w=>e = .returned (.bool (r)) ∧ Ext [] w0 w:=by
 refine enter (vs:=[_,_]) func309 z ntmps309 z fun a k=>?_
 have m:=St.start w0
 unfold d_impl_namesOk_1 at h
 refine wr (s_box (cs:=[I q1.fId,I q1.fW,I q1.fH,I q1.fD,I q1.fTare,I q1.fGram,I q1.fCost]) m k z z z z z z fun b5 w7 a k m e Ab=>pN 1 k z fun a k=>nn (wr (sv k z (r_fa fa79_0 k z z) fun a k=>sv k z (r_ldb t13 m 0 Ab 0 k z z z z z) fun a k=>sv k z (r_fa fa79_0 k z z) fun a k=>sv k z (r_ld1 t13 (r:=[]) (Aa.at (m.a00 Aa.lt1) 0 1 z z z) k z z) fun a k=>pN 2 k z fun a k=>nn (wp_ret (fS h k m z z)))))
theorem c_impl_namesOk_2 (fu:Nat) {w0:World} (q1:Item) (x2:Item) {b3:Nat} (Aa:bx w0 b3 [I x2.fId,I x2.fW,I x2.fH,I x2.fD,I x2.fGram,I x2.fClass,I x2.fCount] 158) {r:Bool}
    (h:d_impl_namesOk_2 fu q1 x2 = some r) :
    Calls Tryz.prog 310 #[.agg (Flat.e (q1)).toArray,.pointer (some (⟨b3,0,none⟩:Addr))] w0 fun e w=>e = .returned (.bool (r)) ∧ Ext [] w0 w:=by
 refine enter (vs:=[_,_]) func310 z ntmps310 z fun a k=>?_
 have m:=St.start w0
 unfold d_impl_namesOk_2 at h
 refine wr (s_box (cs:=[I q1.fId,I q1.fW,I q1.fH,I q1.fD,I q1.fGram,I q1.fClass,I q1.fCount]) m k z z z z z z fun b5 w7 a k m e Ab=>pN 1 k z fun a k=>nn (wr (sv k z (r_fa fa158_0 k z z) fun a k=>sv k z (r_ldb t13 m 0 Ab 0 k z z z z z) fun a k=>sv k z (r_fa fa158_0 k z z) fun a k=>sv k z (r_ld1 t13 (r:=[]) (Aa.at (m.a00 Aa.lt1) 0 1 z z z) k z z) fun a k=>pN 2 k z fun a k=>nn (wp_ret (fS h k m z z)))))
theorem c_slices_IndexFunc_impl_Item_impl_Item (fu:Nat) {w0:World} (Aa:List Item) (f5:Item → Option Bool) {v2:Value} {F3:List Nat} (Ab:rd w0 F3 [v2] Aa) {v6:Value} (Ag:FnOk1 Tryz.prog w0 v6 f5) {r:Int}
    (h:d_slices_IndexFunc_impl_Item_impl_Item fu Aa f5 = some r) :
    Calls Tryz.prog 239 #[v2,v6] w0 fun e w=>e = .returned (I r) ∧ Ext [] w0 w:=by
 refine enter (vs:=[_,_]) func239 z ntmps239 z fun a k=>?_
 have m:=St.start w0
 obtain ⟨Ai,Ak,rfl,Ah,Af⟩:=Ag
 unfold d_slices_IndexFunc_impl_Item_impl_Item at h
 refine wr (pN 1 k z fun a k=>nn (wp_seq (wr (pN 1 k z fun a k=>sv k z (r_len (α:=Item) Ab k underlying36 z z) fun a k=>pN 1 k z fun a k=>nn (wp_block (c_loop (fun n a w=>∃ (Ac:Int),K 19 [(0,v2),(1,(.func (.func Ai) #[] Ak.toArray)),(7,I ((Aa.length:Int))),(8,I Ac)] a ∧ St [] w0 w [] ∧ d_slices_IndexFunc_impl_Item_impl_Item_L1 fu Aa f5 n Ac = some r) ?_ ?_ fu _ _ ?_))))))
 · rintro a w ⟨_,_,_,h⟩
   exact nS h
 · rintro Ap a Aq ⟨Ac,k,m,h⟩
   rw [d_slices_IndexFunc_impl_Item_impl_Item_L1_s] at h
   unfold d_slices_IndexFunc_impl_Item_impl_Item_L1_B at h
   refine wr (pN 1 k z fun a k=>nn (wp_seq (cI h k z (fun Al h=>?_) fun Al h=>?_)))
   · refine wp_skip (nm_then ?_)
     refine wp_seq (wp_block (wr (pN 2 k z fun a k=>nn (wr (pN 3 k z fun a k=>oE h fun Am Ad h=>sv k z (r_ixa Ab Ad k ts36 z z z) fun a k=>sv k z (r_lde Ab (m.a00 (Enc.rd_lt Ab)) Ad ta158 k z z) fun a k=>oE h fun Ar Ae h=>s_callv k Ah z z z z z z (Af _ _ _ _ m.ext z Ae) fun As Ao hR=>?_)))))
     obtain ⟨rfl,e⟩:=hR
     refine ⟨_,z,fun a k=>?_⟩
     have m:=m.step e
     refine nn (cI h k z (fun Aj h=>?_) fun Aj h=>?_)
     · refine wr (pN 2 k z fun a k=>nn (wp_ret (rt_block (rt_then (rt_then (rt_block (rt_then ?_)))))))
       refine fS h k m z z
     refine wp_skip (nm_block (nm_then ?_))
     refine wp_region_lit (pN 2 k z fun a k=>nn ?_)
     exact ⟨w64 (Ac + 1),k.keep [0,1,7,8] z,m.sel [] z (by decide),h⟩
   refine wp_exit (ex_then (ex_then (ex_same (nm_then ?_))))
   refine wr (pN 1 k z fun a k=>nn (wp_ret (fS h k m z z)))
 exact ⟨0,k.keep [0,1,7,8] z,m.sel [] z (by decide),h⟩
theorem c_slices_ContainsFunc_impl_Item_impl_Item (fu:Nat) {w0:World} (Aa:List Item) (f5:Item → Option Bool) {v2:Value} {F3:List Nat} (Ab:rd w0 F3 [v2] Aa) {v6:Value} (Ad:FnOk1 Tryz.prog w0 v6 f5) {r:Bool}
    (h:d_slices_ContainsFunc_impl_Item_impl_Item fu Aa f5 = some r) :
    Calls Tryz.prog 148 #[v2,v6] w0 fun e w=>e = .returned (.bool (r)) ∧ Ext [] w0 w:=by
 refine enter (vs:=[_,_]) func148 z ntmps148 z fun a k=>?_
 have m:=St.start w0
 obtain ⟨Ak,Aj,rfl,Ag,Ac⟩:=Ad
 unfold d_slices_ContainsFunc_impl_Item_impl_Item at h
 refine wr (pN 1 k z fun a k=>nn (wr (pN 2 k z fun a k=>oE h fun Ai Af h=>cE k m call239 z z z (c_slices_IndexFunc_impl_Item_impl_Item fu _ _ (Enc.rd_agr Ab (m.a00 (Enc.rd_lt Ab))) ⟨_,_,z,Ag,fun w Ae Ah r e=>Ac w Ae Ah r (m.ext.trans e (by simp))⟩ Af) fun Al e a k m=>pN 2 k z fun a k=>nn (wp_ret (fS h k m z z)))))
theorem c_impl_namesOk_3 (fu:Nat) {w0:World} (p1:Pair) (x2:Request) {v5:Value} {F6:List Nat} {v8:Value} {F9:List Nat} {Ad:Value} {Ae:List Nat} {b3:Nat} (Ab:bx w0 b3 [I x2.fWay,I x2.fPallet.fW,I x2.fPallet.fD,I x2.fPallet.fH,I x2.fPallet.fGram,I x2.fClasses,v5,v8,I x2.fMaster,Ad] 38) (Ah:rd w0 F6 [v5] x2.fPairs) (Af:rd w0 F9 [v8] x2.fTypes) (Ai:rd w0 Ae [Ad] x2.fItems) {r:Bool}
    (h:d_impl_namesOk_3 fu p1 x2 = some r) :
    Calls Tryz.prog 311 #[.agg (Flat.e (p1)).toArray,.pointer (some (⟨b3,0,none⟩:Addr))] w0 fun e w=>e = .returned (.bool (r)) ∧ Ext [] w0 w:=by
 refine enter (vs:=[_,_]) func311 z ntmps311 z fun a k=>?_
 have m:=St.start w0
 unfold d_impl_namesOk_3 at h
 refine wr (s_box (cs:=[I p1.fA,I p1.fB]) m k z z z z z z fun Ag Aj a k m e Ac=>pN 1 k z fun a k=>nn (wr (sv k z (r_fa fa180_0 k z z) fun a k=>sv k z (r_ldb t13 m 0 Ac 0 k z z z z z) fun a k=>sv k z (r_fa fa38_2 k z z) fun a k=>sv k z (r_ld1 t13 (r:=[]) (Ab.at (m.a00 Ab.lt1) 5 1 z z z) k z z) fun a k=>pN 2 k z fun a k=>bsplit (decide (p1.fA ≥ x2.fClasses)) (fun Aa=>?_) (fun Aa=>?_))))
 · have h:=bif_t Aa h
   refine rB k 9 z Aa fun k=>pN 7 k z fun a k=>nn (wp_ret (fS h k m z z))
 have h:=bif_f Aa h
 refine rB k 9 z Aa fun k=>sv k z (r_fa fa180_1 k z z) fun a k=>sv k z (r_ldb t13 m 0 Ac 1 k z z z z z) fun a k=>sv k z (r_fa fa38_2 k z z) fun a k=>sv k z (r_ld1 t13 (r:=[]) (Ab.at (m.a00 Ab.lt1) 5 1 z z z) k z z) fun a k=>pN 3 k z fun a k=>nn (wp_ret (fS h k m z z))
theorem c_impl_namesOk (fu:Nat) {w0:World} (r1:Request) {At:List Value} {F3:List Nat} (Bi:rd w0 F3 At r1) {r:Bool}
    (h:d_impl_namesOk fu r1 = some r) :
    Calls Tryz.prog 272 #[.agg At.toArray] w0 fun e w=>e = .returned (.bool (r)) ∧ Ext [] w0 w:=by
 refine enter (vs:=[_]) func272 z ntmps272 z fun a k=>?_
 have m:=St.start w0
 obtain ⟨v5,F6,v7,F8,v9,Br,rfl,rfl,Ai,Aa,Ab⟩:=Bi
 unfold d_impl_namesOk at h
 refine wr (s_box (cs:=[I r1.fWay,I r1.fPallet.fW,I r1.fPallet.fD,I r1.fPallet.fH,I r1.fPallet.fGram,I r1.fClasses,v5,v7,I r1.fMaster,v9]) m k z z z z z z fun Af Am a k m e Ad=>pN 1 k z fun a k=>nn (wp_seq (wr (sv k z (r_fa fa38_4 k z z) fun a k=>sv k z (r_ldb t135 m 0 Ad 7 k z z z z z) fun a k=>sv k z (r_len (α:=Typ) Aa k underlying35 z z) fun a k=>pN 1 k z fun a k=>nn (wp_block (c_loop (fun n a w=>∃ (Al:Int),K 59 [(1,.pointer (some (⟨Af,0,none⟩:Addr))),(10,v7),(11,I ((r1.fTypes.length:Int))),(12,I Al)] a ∧ St [] w0 w [([Af],Am)] ∧ d_impl_namesOk_L2 fu r1 n Al = some r) ?_ ?_ fu _ _ ?_))))))
 · rintro a w ⟨_,_,_,h⟩
   exact nS h
 · rintro Cn a Co ⟨Al,k,m,h⟩
   rw [d_impl_namesOk_L2_s] at h
   unfold d_impl_namesOk_L2_B at h
   refine wr (pN 1 k z fun a k=>nn (wp_seq (cI h k z (fun Ax h=>?_) fun Ax h=>?_)))
   · refine wp_skip (nm_then ?_)
     refine wp_seq (wp_block (wr (pN 1 k z fun a k=>oE h fun Ag Ao h=>sv k z (r_ixa Aa Ao k ts35 z z z) fun a k=>sv k z (r_lde Aa (m.a00 (Enc.rd_lt Aa)) Ao ta79 k z z) fun a k=>s_alloc (cs:=[I 0,I 0,I 0,I 0,I 0,I 0,I 0]) m k zeroValue79 z z z z z fun Av Bu a k m e Au=>pN 1 k z fun a k=>s_stb (cs':=[I Ag.fId,I Ag.fW,I Ag.fH,I Ag.fD,I Ag.fTare,I Ag.fGram,I Ag.fCost]) sizeOf79 m 0 Au 0 k z z z z z z z z z z z fun Cm a k e m Bl=>nn (wr (sv k z (r_fa fa38_4 k z z) fun a k=>sv k z (r_ldb t135 m 1 Ad 7 k z z z z z) fun a k=>pN 1 k z fun a k=>oE h fun Bq Bj h=>?_)))))
     refine s_slTo Aa Bj k ts35 z z z z z z fun Bp a k Aq=>pN 1 k z fun a k=>oE h fun Cq Bg h=>cE k m call275 z z z (c_slices_ContainsFunc_impl_Type_impl_Type fu _ _ (Enc.rd_agr Aq (m.a00 (Enc.rd_lt Aq))) ⟨309,[.pointer (some (⟨Av,0,none⟩:Addr))],z,call309,fun w Bv Cf r e Bm hx=>by subst Bm; have m:=m.step e; exact c_impl_namesOk_1 fu _ _ (Bl.agr (m.a 0 rfl) (by simp)) hx⟩ Bg) fun Cl e a k m=>nn (cI h k rfl (fun Bn h=>?_) fun Bn h=>?_)
     · refine wr (pN 1 k z fun a k=>nn (wp_ret (rt_block (rt_then (rt_then (rt_block (rt_then ?_)))))))
       refine fS h k m z z
     refine wp_skip (nm_block (nm_then ?_))
     refine wp_region_lit (pN 2 k z fun a k=>nn ?_)
     exact ⟨w64 (Al + 1),k.keep [1,10,11,12] z,m.sel [1] z (by decide),h⟩
   refine wp_exit (ex_then (ex_then (ex_same (nm_then ?_))))
   refine wp_seq (wr (sv k z (r_fa fa38_6 k z z) fun a k=>sv k z (r_ldb t136 m 0 Ad 9 k z z z z z) fun a k=>sv k z (r_len (α:=Item) Ab k underlying36 z z) fun a k=>pN 1 k z fun a k=>nn (wp_block (c_loop (fun n a w=>∃ (Ah:Int),K 59 [(1,.pointer (some (⟨Af,0,none⟩:Addr))),(25,v9),(26,I ((r1.fItems.length:Int))),(27,I Ah)] a ∧ St [] w0 w [([Af],Am)] ∧ d_impl_namesOk_L1 fu r1 n Ah = some r) ?_ ?_ fu _ _ ?_))))
   · rintro a w ⟨_,_,_,h⟩
     exact nS h
   · rintro Be a Bs ⟨Ah,k,m,h⟩
     rw [d_impl_namesOk_L1_s] at h
     unfold d_impl_namesOk_L1_B at h
     refine wr (pN 1 k z fun a k=>nn (wp_seq (cI h k z (fun Bh h=>?_) fun Bh h=>?_)))
     · refine wp_skip (nm_then ?_)
       refine c_cut (fun a w=>K 59 [(1,.pointer (some (⟨Af,0,none⟩:Addr))),(25,v9),(26,I ((r1.fItems.length:Int))),(27,I Ah)] a ∧ St [] w0 w [([Af],Am)] ∧ d_impl_namesOk_J1 fu (d_impl_namesOk_L1 fu r1 Be) Ah = some r) ?_ ?_
       · rintro a Bt ⟨k,m,h⟩
         unfold d_impl_namesOk_J1 at h
         refine wp_region_lit (pN 2 k z fun a k=>nn ?_)
         exact ⟨w64 (Ah + 1),k.keep [1,25,26,27] z,m.sel [0] z (by decide),h⟩
       refine wp_block (wr (pN 1 k z fun a k=>oE h fun Ac Ar h=>sv k z (r_ixa Ab Ar k ts36 z z z) fun a k=>sv k z (r_lde Ab (m.a00 (Enc.rd_lt Ab)) Ar ta158 k z z) fun a k=>s_alloc (cs:=[I 0,I 0,I 0,I 0,I 0,I 0,I 0]) m k zeroValue158 z z z z z fun Bd Cd a k m e Bc=>pN 1 k z fun a k=>s_stb (cs':=[I Ac.fId,I Ac.fW,I Ac.fH,I Ac.fD,I Ac.fGram,I Ac.fClass,I Ac.fCount]) sizeOf158 m 0 Bc 0 k z z z z z z z z z z z fun By a k e m As=>nn (wr (sv k z (r_fa fa158_5 k z z) fun a k=>sv k z (r_ldb t13 m 0 As 5 k z z z z z) fun a k=>?_))))
       refine sv k z (r_fa fa38_2 k z z) fun a k=>sv k z (r_ldb t13 m 1 Ad 5 k z z z z z) fun a k=>pN 2 k z fun a k=>bsplit (decide (Ac.fClass ≥ r1.fClasses)) (fun Ak=>?_) (fun Ak=>?_)
       · have h:=bif_t Ak h
         refine rB k 37 z Ak fun k=>pN 7 k z fun a k=>nn (wp_cond_true (k.ev z) (wr (pN 1 k z fun a k=>nn (wp_ret (rt_block (rt_then (rt_then (rt_block (rt_then ?_)))))))))
         refine fS h k m z z
       have h:=bif_f Ak h
       refine rB k 37 z Ak fun k=>sv k z (r_fa fa38_6 k z z) fun a k=>sv k z (r_ldb t136 m 1 Ad 9 k z z z z z) fun a k=>pN 1 k z fun a k=>oE h fun Cg Bb h=>s_slTo Ab Bb k ts36 z z z z z z fun Bx a k Ap=>pN 1 k z fun a k=>oE h fun Cr Bk h=>cE k m call148 z z z (c_slices_ContainsFunc_impl_Item_impl_Item fu _ _ (Enc.rd_agr Ap (m.a00 (Enc.rd_lt Ap))) ⟨310,[.pointer (some (⟨Bd,0,none⟩:Addr))],z,call310,fun w Cp Cs r e Ay hx=>by subst Ay; have m:=m.step e; exact c_impl_namesOk_2 fu _ _ (As.agr (m.a 0 rfl) (by simp)) hx⟩ Bk) fun Cj e a k m=>pN 1 k rfl fun a k=>nn (cI h k rfl (fun Aw h=>?_) fun Aw h=>?_)
       · refine wr (pN 1 k z fun a k=>nn (wp_ret (rt_block (rt_then (rt_then (rt_block (rt_then ?_)))))))
         refine fS h k m z z
       refine wp_skip (nm_block (nm_then ?_))
       exact ⟨k.keep [1,25,26,27] z,m.sel [1] z (by decide),h⟩
     refine wp_exit (ex_then (ex_then (ex_same (nm_then ?_))))
     refine wr (sv k z (r_ldB ta38 m 0 Ad 0 k z z z z z z) fun a k=>oE h fun Ae Bo h=>cE k m call250 z z z (c_impl_MasterOf fu _ (show rd _ _ [I r1.fWay,I r1.fPallet.fW,I r1.fPallet.fD,I r1.fPallet.fH,I r1.fPallet.fGram,I r1.fClasses,v5,v7,I r1.fMaster,v9] (r1:Request) from ⟨_,_,_,_,_,_,z,z,(Enc.rd_agr Ai (m.a00 (Enc.rd_lt Ai))),(Enc.rd_agr Aa (m.a00 (Enc.rd_lt Aa))),(Enc.rd_agr Ab (m.a00 (Enc.rd_lt Ab)))⟩) Bo) fun Ce e a k m=>pN 3 k z fun a k=>s_alloc (cs:=[I 0,I 0,I 0,I 0,I 0,I 0,I 0]) m k zeroValue79 z z z z z fun Bz Cb a k m e Bf=>?_)
     refine s_stb (cs':=[I Ae.1.fId,I Ae.1.fW,I Ae.1.fH,I Ae.1.fD,I Ae.1.fTare,I Ae.1.fGram,I Ae.1.fCost]) sizeOf79 m 0 Bf 0 k z z z z z z z z z z z fun Ch a k e m Ca=>pN 1 k z fun a k=>nn (wr (pN 2 k z fun a k=>bsplit (Ae.2) (fun Aj=>?_) (fun Aj=>?_)))
     · have h:=bif_t Aj h
       refine rB k 52 z Aj fun k=>sv k z (r_fa fa38_3 k z z) fun a k=>sv k z (r_ldb t134 m 1 Ad 6 k z z z z z) fun a k=>pN 1 k z fun a k=>oE h fun Ck Ba h=>cE k m call304 z z z (c_slices_ContainsFunc_impl_Pair_impl_Pair fu _ _ (Enc.rd_agr Ai (m.a00 (Enc.rd_lt Ai))) ⟨311,[.pointer (some (⟨Af,0,none⟩:Addr))],z,call311,fun w Ci Bw r e Az hx=>by subst Az; have m:=m.step e; exact c_impl_namesOk_3 fu _ _ (Ad.agr (m.a 1 rfl) (by simp)) (Enc.rd_agr Ai (m.a00 (Enc.rd_lt Ai))) (Enc.rd_agr Aa (m.a00 (Enc.rd_lt Aa))) (Enc.rd_agr Ab (m.a00 (Enc.rd_lt Ab))) hx⟩ Ba) fun Cc e a k m=>pN 3 k rfl fun a k=>nn (wp_ret (fS h k m rfl rfl))
     have h:=bif_f Aj h
     refine rB k 52 z Aj fun k=>pN 7 k z fun a k=>nn (wp_ret (fS h k m z z))
   exact ⟨0,k.keep [1,25,26,27] z,m.sel [0] z (by decide),h⟩
 exact ⟨0,k.keep [1,10,11,12] z,m.sel [0] z (by decide),h⟩
theorem c_slices_Index_impl_Pair_impl_Pair (fu:Nat) {w0:World} (Aa:List Pair) (v5:Pair) {v2:Value} {F3:List Nat} (Ab:rd w0 F3 [v2] Aa) {r:Int}
    (h:d_slices_Index_impl_Pair_impl_Pair fu Aa v5 = some r) :
    Calls Tryz.prog 296 #[v2,.agg (Flat.e (v5)).toArray] w0 fun e w=>e = .returned (I r) ∧ Ext [] w0 w:=by
 refine enter (vs:=[_,_]) func296 z ntmps296 z fun a k=>?_
 have m:=St.start w0
 unfold d_slices_Index_impl_Pair_impl_Pair at h
 refine wr (s_box (cs:=[I v5.fA,I v5.fB]) m k z z z z z z fun b6 w9 a k m e Ah=>pN 1 k z fun a k=>nn (wp_seq (wr (pN 1 k z fun a k=>sv k z (r_len (α:=Pair) Ab k underlying34 z z) fun a k=>pN 1 k z fun a k=>nn (wp_block (c_loop (fun n a w=>∃ (Ac:Int),K 19 [(0,v2),(3,.pointer (some (⟨b6,0,none⟩:Addr))),(7,I ((Aa.length:Int))),(8,I Ac)] a ∧ St [] w0 w [([b6],w9)] ∧ d_slices_Index_impl_Pair_impl_Pair_L1 fu Aa v5 n Ac = some r) ?_ ?_ fu _ _ ?_))))))
 · rintro a w ⟨_,_,_,h⟩
   exact nS h
 · rintro Ak a Aj ⟨Ac,k,m,h⟩
   rw [d_slices_Index_impl_Pair_impl_Pair_L1_s] at h
   unfold d_slices_Index_impl_Pair_impl_Pair_L1_B at h
   refine wr (pN 1 k z fun a k=>nn (wp_seq (cI h k z (fun Ag h=>?_) fun Ag h=>?_)))
   · refine wp_skip (nm_then ?_)
     refine wp_seq (wp_block (wr (pN 2 k z fun a k=>nn (wp_seq (d_go [] mixo m z fun Af hMd=>?_)))))
     have m:=hMd
     have s:=Ext.refl ([]:List Nat) Af
     refine dN [1,2] 2 z k (by kernel_rfl) z s (fun _ _ _ _ _=>id) fun a k=>dt k 0 z (by kernel_rfl) z s (fun _ _ _=>id) (fun w s=>r_ldA ta180 (Ah.at ((hMd.step s).a 0 z) 0 2 z z z) z k z z) fun a k=>oE h fun Ai Ad h=>dt k 3 z (by kernel_rfl) z s (fun _ _ _=>id) (fun w s=>r_ixa Ab Ad k ts34 z z z) fun a k=>dt k 4 z (by kernel_rfl) z s (fun _ _ _=>id) (fun w s=>r_lde Ab ((hMd.step s).a00 (Enc.rd_lt Ab)) Ad ta180 k z z) fun a k=>dt k 5 z (by kernel_rfl) z s (fun _ _ _=>id) (fun w s=>r_eqs seq180 (x:=v5) (y:=Ai) k z z z z z) fun a k=>d_done (by kernel_rfl) ((nm_then ?_))
     refine cI h k z (fun Ae h=>?_) fun Ae h=>?_
     · refine wr (pN 2 k z fun a k=>nn (wp_ret (rt_block (rt_then (rt_then (rt_block (rt_then ?_)))))))
       refine fS h k m z z
     refine wp_skip (nm_block (nm_then ?_))
     refine wp_region_lit (pN 2 k z fun a k=>nn ?_)
     exact ⟨w64 (Ac + 1),k.keep [0,3,7,8] z,m.sel [0] z (by decide),h⟩
   refine wp_exit (ex_then (ex_then (ex_same (nm_then ?_))))
   refine wr (pN 1 k z fun a k=>nn (wp_ret (fS h k m z z)))
 exact ⟨0,k.keep [0,3,7,8] z,m.sel [0] z (by decide),h⟩
theorem c_slices_Contains_impl_Pair_impl_Pair (fu:Nat) {w0:World} (Aa:List Pair) (v5:Pair) {v2:Value} {F3:List Nat} (Ab:rd w0 F3 [v2] Aa) {r:Bool}
    (h:d_slices_Contains_impl_Pair_impl_Pair fu Aa v5 = some r) :
    Calls Tryz.prog 257 #[v2,.agg (Flat.e (v5)).toArray] w0 fun e w=>e = .returned (.bool (r)) ∧ Ext [] w0 w:=by
 refine enter (vs:=[_,_]) func257 z ntmps257 z fun a k=>?_
 have m:=St.start w0
 unfold d_slices_Contains_impl_Pair_impl_Pair at h
 refine wr (s_box (cs:=[I v5.fA,I v5.fB]) m k z z z z z z fun b6 w9 a k m e Ad=>pN 1 k z fun a k=>nn (wr (pN 1 k z fun a k=>sv k z (r_ldB ta180 m 0 Ad 0 k z z z z z z) fun a k=>oE h fun Ae Ac h=>cE k m call296 z z z (c_slices_Index_impl_Pair_impl_Pair fu _ (v5:Pair) (Enc.rd_agr Ab (m.a00 (Enc.rd_lt Ab))) Ac) fun Af e a k m=>pN 2 k z fun a k=>nn (wp_ret (fS h k m z z)))))
theorem c_impl_Beside (fu:Nat) {w0:World} (Aa:List Pair) (a5:Int) (b6:Int) {v2:Value} {F3:List Nat} (Ab:rd w0 F3 [v2] Aa) {r:Bool}
    (h:d_impl_Beside fu Aa a5 b6 = some r) :
    Calls Tryz.prog 179 #[v2,I a5,I b6] w0 fun e w=>e = .returned (.bool (r)) ∧ Ext [] w0 w:=by
 refine enter (vs:=[_,_,_]) func179 z ntmps179 z fun a k=>?_
 have m:=St.start w0
 unfold d_impl_Beside at h
 refine wr (pN 1 k z fun a k=>nn (wr (pN 3 k z fun a k=>sv k z (r_build bt180 k (cs:=#[I a5,I b6]) (ps:=[(0,.tmp 8),(1,.tmp 9)]) z z (by kernel_rfl)) fun a k=>oE h fun x7 Ac h=>cE k m call257 z z z (c_slices_Contains_impl_Pair_impl_Pair fu _ (((⟨a5,b6⟩:Pair)):Pair) (Enc.rd_agr Ab (m.a00 (Enc.rd_lt Ab))) Ac) fun Ad e a k m=>pN 1 k z fun a k=>nn (wp_ret (fS h k m z z)))))
theorem c_impl_TableOk (fu:Nat) {w0:World} (Ad:List Pair) (Aa:Int) {v2:Value} {F3:List Nat} (Ac:rd w0 F3 [v2] Ad) {r:Bool}
    (h:d_impl_TableOk fu Ad Aa = some r) :
    Calls Tryz.prog 273 #[v2,I Aa] w0 fun e w=>e = .returned (.bool (r)) ∧ Ext [] w0 w:=by
 refine enter (vs:=[_,_]) func273 z ntmps273 z fun a k=>?_
 have m:=St.start w0
 unfold d_impl_TableOk at h
 refine wr (pN 1 k z fun a k=>nn (wp_seq (wr (pN 1 k z fun a k=>oE h fun x6 Ah h=>cE k m call139 z z z (c_impl_in fu _ _ _  Ah) fun w9 e a k m=>pN 1 k z fun a k=>nn (cI h k z (fun Ai h=>?_) fun Ai h=>?_)))))
 · refine wr (pN 1 k z fun a k=>nn (wp_ret (rt_then ?_)))
   refine fS h k m z z
 refine wp_skip (nm_then ?_)
 refine wp_seq (wr (pN 2 k z fun a k=>nn (wp_block (c_loop (fun n a w=>∃ (Ab:Int),K 34 [(0,v2),(1,I Aa),(10,I Aa),(11,I Ab)] a ∧ St [] w0 w [] ∧ d_impl_TableOk_L2 fu Ad Aa n Ab = some r) ?_ ?_ fu _ _ ?_))))
 · rintro a w ⟨_,_,_,h⟩
   exact nS h
 · rintro Aj a Ar ⟨Ab,k,m,h⟩
   rw [d_impl_TableOk_L2_s] at h
   unfold d_impl_TableOk_L2_B at h
   refine wr (pN 1 k z fun a k=>nn (wp_seq (cI h k z (fun Am h=>?_) fun Am h=>?_)))
   · refine wp_skip (nm_then ?_)
     refine wp_seq (wp_block (wr (pN 2 k z fun a k=>nn (wp_seq (wr (pN 3 k z fun a k=>oE h fun Aw Ap h=>cE k m call179 z z z (c_impl_Beside fu _ _ _ (Enc.rd_agr Ac (m.a00 (Enc.rd_lt Ac))) Ap) fun At e a k m=>pN 1 k z fun a k=>nn (cI h k z (fun Ag h=>?_) fun Ag h=>?_)))))))
     · refine wr (pN 1 k z fun a k=>nn (wp_ret (rt_then (rt_block (rt_then (rt_then (rt_block (rt_then ?_))))))))
       refine fS h k m z z
     refine wp_skip (nm_then ?_)
     refine wr (pN 2 k z fun a k=>nn (wp_block (c_loop (fun n a w=>∃ (Ae:Int),K 34 [(0,v2),(1,I Aa),(5,I Ab),(10,I Aa),(11,I Ab),(19,I Aa),(20,I Ae)] a ∧ St [] w0 w [] ∧ d_impl_TableOk_L1 fu (d_impl_TableOk_L2 fu Ad Aa Aj) Ad Aa Ab n Ae = some r) ?_ ?_ fu _ _ ?_)))
     · rintro a w ⟨_,_,_,h⟩
       exact nS h
     · rintro Ax a Aq ⟨Ae,k,m,h⟩
       rw [d_impl_TableOk_L1_s] at h
       unfold d_impl_TableOk_L1_B at h
       refine wr (pN 1 k z fun a k=>nn (wp_seq (cI h k z (fun Ak h=>?_) fun Ak h=>?_)))
       · refine wp_skip (nm_then ?_)
         refine wp_seq (wp_block (wr (pN 2 k z fun a k=>nn (wr (pN 3 k z fun a k=>oE h fun As Af h=>cE k m call179 z z z (c_impl_Beside fu _ _ _ (Enc.rd_agr Ac (m.a00 (Enc.rd_lt Ac))) Af) fun Av e a k m=>pN 3 k z fun a k=>oE h fun Au Al h=>cE k m call179 z z z (c_impl_Beside fu _ _ _ (Enc.rd_agr Ac (m.a00 (Enc.rd_lt Ac))) Al) fun Ay e a k m=>sv k z (r_neb k underlying4 z z z) fun a k=>nn (cI h k z (fun Ao h=>?_) fun Ao h=>?_))))))
         · refine wr (pN 1 k z fun a k=>nn (wp_ret (rt_block (rt_then (rt_then (rt_block (rt_block (rt_then (rt_then (rt_block (rt_then ?_)))))))))))
           refine fS h k m z z
         refine wp_skip (nm_block (nm_then ?_))
         refine wp_region_lit (pN 2 k z fun a k=>nn ?_)
         exact ⟨w64 (Ae + 1),k.keep [0,1,5,10,11,19,20] z,m.sel [] z (by decide),h⟩
       refine wp_exit (ex_then (ex_then (ex_same (nm_block (nm_then ?_)))))
       refine wp_region_lit (pN 2 k z fun a k=>nn ?_)
       exact ⟨w64 (Ab + 1),k.keep [0,1,10,11] z,m.sel [] z (by decide),h⟩
     exact ⟨0,k.keep [0,1,5,10,11,19,20] z,m.sel [] z (by decide),h⟩
   refine wp_exit (ex_then (ex_then (ex_same (nm_then ?_))))
   refine wr (pN 1 k z fun a k=>nn (wp_ret (fS h k m z z)))
 exact ⟨0,k.keep [0,1,10,11] z,m.sel [] z (by decide),h⟩
theorem c_slices_Sort_int_int (fu:Nat) {w0:World} (x1:List Int) {v2:Value} {F3:List Nat} (Aa:ow w0 F3 [v2] x1) {r:List Int}
    (h:d_slices_Sort_int_int fu x1 = some r) :
    Calls Tryz.prog 120 #[v2] w0 fun e w=>∃ H:List Nat,e = .returned (.tuple #[]) ∧ Ext F3 w0 w ∧ (∀ b ∈ H,b ∈ F3 ∨ w0.heap.size ≤ b) ∧ ow w H [v2] r :=
  (c_sortInt (fun blk off cap zs w=>Tryz.slices_Sort_int blk off cap zs w) (fun p cap w=>Tryz.slices_Sort_int_none p cap w) x1 Aa h).mono fun e w ⟨h1,h2,h3⟩=>⟨_,h1,h2,fun b hb=>.inl hb,h3⟩

theorem c_impl_Fits (fu:Nat) {w0:World} (x1:Item) (t2:Typ)  {r:Bool}
    (h:d_impl_Fits fu x1 t2 = some r) :
    Calls Tryz.prog 151 #[.agg (Flat.e (x1)).toArray,.agg (Flat.e (t2)).toArray] w0 fun e w=>e = .returned (.bool (r)) ∧ Ext [] w0 w:=by
 refine enter (vs:=[_,_]) func151 z ntmps151 z fun a k=>?_
 have m:=St.start w0
 unfold d_impl_Fits at h
 refine wr (s_box (cs:=[I x1.fId,I x1.fW,I x1.fH,I x1.fD,I x1.fGram,I x1.fClass,I x1.fCount]) m k z z z z z z fun b3 w5 a k m e Af=>s_box (cs:=[I t2.fId,I t2.fW,I t2.fH,I t2.fD,I t2.fTare,I t2.fGram,I t2.fCost]) m k z z z z z z fun b6 w9 a k m e Ag=>pN 1 k z fun a k=>nn ?_)
 refine c_cut (fun a w=>∃ (Ai:List Int) (Ah:Value) (Ap:List Nat) (Al:World) (Ak:List Int) (Aj:Value) (Ao:List Nat) (Am:World),K 57 [(2,.pointer (some (⟨b3,0,none⟩:Addr))),(3,.pointer (some (⟨b6,0,none⟩:Addr))),(5,Ah),(6,Aj)] a ∧ St [] w0 w [([b3],w5),([b6],w9),(Ap,Al),(Ao,Am)] ∧ ow Al Ap [Ah] Ai ∧ ow Am Ao [Aj] Ak ∧ d_impl_Fits_J1 fu x1 t2 Ai Ak = some r) ?_ ?_
 · rintro a Cm ⟨Ai,Ah,Ap,Al,Ak,Aj,Ao,Am,k,m,Bv,Bs,h⟩
   unfold d_impl_Fits_J1 at h
   refine wr (pN 1 k z fun a k=>oE h fun Cu Cd h=>s_call k call120 z z z z z (c_slices_Sort_int_int fu _ (Enc.ow_agr Bv (m.a 2 z)) Cd) fun Cr Cl hR=>?_)
   obtain ⟨Ce,rfl,e,Bh,Ab⟩:=hR
   refine ⟨_,z,fun a k=>?_⟩
   have m:=m.mut 2 z e _ (fun b hb=>⟨Bh b hb,Enc.rd_lt (Enc.ow_rd Ab) b hb⟩) (Enc.ow_nd Ab)
   refine nn (wr (pN 1 k z fun a k=>oE h fun Cg Bg h=>s_call k call120 z z z z z (c_slices_Sort_int_int fu _ (Enc.ow_agr Bs (m.a 3 z)) Bg) fun Cs Cf hR=>?_))
   obtain ⟨Cp,rfl,e,Br,Aa⟩:=hR
   refine ⟨_,z,fun a k=>?_⟩
   have m:=m.mut 3 z e _ (fun b hb=>⟨Br b hb,Enc.rd_lt (Enc.ow_rd Aa) b hb⟩) (Enc.ow_nd Aa)
   refine nn (wp_seq (d_go [] mixo m z fun Bp hMd=>?_))
   have m:=hMd
   have s:=Ext.refl ([]:List Nat) Bp
   refine dN [0,3] 2 z k (by kernel_rfl) z s (fun _ _ _ _ _=>id) fun a k=>oE h fun Bz Au h=>dt k 1 z (by kernel_rfl) z s (fun _ _ _=>id) (fun w s=>r_ixa (Enc.ow_rd Ab) Au k ts63 z z z) fun a k=>dt k 2 z (by kernel_rfl) z s (fun _ _ _=>id) (fun w s=>r_lde1 (Enc.ow_rd Ab) ((hMd.step s).a 2 z) Au 0 t13 k z z z z) fun a k=>oE h fun Bk Az h=>dt k 4 z (by kernel_rfl) z s (fun _ _ _=>id) (fun w s=>r_ixa (Enc.ow_rd Aa) Az k ts63 z z z) fun a k=>dt k 5 z (by kernel_rfl) z s (fun _ _ _=>id) (fun w s=>r_lde1 (Enc.ow_rd Aa) ((hMd.step s).a 3 z) Az 0 t13 k z z z z) fun a k=>dN [6,7] 2 z k (by kernel_rfl) z s (fun _ _ _ _ _=>id) fun a k=>bsplit (decide (Bz ≤ Bk)) (fun Ae=>?_) (fun Ae=>?_)
   · have h:=bif_t Ae h
     refine rB k 32 z Ae fun k=>dN [8,11] 2 z k (by kernel_rfl) z s (fun _ _ _ _ _=>id) fun a k=>oE h fun Cb Aq h=>dt k 9 z (by kernel_rfl) z s (fun _ _ _=>id) (fun w s=>r_ixa (Enc.ow_rd Ab) Aq k ts63 z z z) fun a k=>dt k 10 z (by kernel_rfl) z s (fun _ _ _=>id) (fun w s=>r_lde1 (Enc.ow_rd Ab) ((hMd.step s).a 2 z) Aq 0 t13 k z z z z) fun a k=>oE h fun Bb Ay h=>dt k 12 z (by kernel_rfl) z s (fun _ _ _=>id) (fun w s=>r_ixa (Enc.ow_rd Aa) Ay k ts63 z z z) fun a k=>dt k 13 z (by kernel_rfl) z s (fun _ _ _=>id) (fun w s=>r_lde1 (Enc.ow_rd Aa) ((hMd.step s).a 3 z) Ay 0 t13 k z z z z) fun a k=>dN [14,15,16] 3 z k (by kernel_rfl) z s (fun _ _ _ _ _=>id) fun a k=>bsplit (decide (Cb ≤ Bb)) (fun Ac=>?_) (fun Ac=>?_)
     · have h:=bif_t Ac h
       refine rB k 41 z Ac fun k=>dN [17,20] 2 z k (by kernel_rfl) z s (fun _ _ _ _ _=>id) fun a k=>oE h fun By At h=>dt k 18 z (by kernel_rfl) z s (fun _ _ _=>id) (fun w s=>r_ixa (Enc.ow_rd Ab) At k ts63 z z z) fun a k=>dt k 19 z (by kernel_rfl) z s (fun _ _ _=>id) (fun w s=>r_lde1 (Enc.ow_rd Ab) ((hMd.step s).a 2 z) At 0 t13 k z z z z) fun a k=>oE h fun Bl Ax h=>dt k 21 z (by kernel_rfl) z s (fun _ _ _=>id) (fun w s=>r_ixa (Enc.ow_rd Aa) Ax k ts63 z z z) fun a k=>dt k 22 z (by kernel_rfl) z s (fun _ _ _=>id) (fun w s=>r_lde1 (Enc.ow_rd Aa) ((hMd.step s).a 3 z) Ax 0 t13 k z z z z) fun a k=>dN [23,24,25] 3 z k (by kernel_rfl) z s (fun _ _ _ _ _=>id) fun a k=>bsplit (decide (By ≤ Bl)) (fun Ad=>?_) (fun Ad=>?_)
       · have h:=bif_t Ad h
         refine rB k 50 z Ad fun k=>dt k 26 z (by kernel_rfl) z s (fun _ _ _=>id) (fun w s=>r_fa fa158_4 k z z) fun a k=>dt k 27 z (by kernel_rfl) z s (fun _ _ _=>id) (fun w s=>r_ld1 t13 (r:=[]) (Af.at ((hMd.step s).a 0 z) 4 1 z z z) k z z) fun a k=>dt k 28 z (by kernel_rfl) z s (fun _ _ _=>id) (fun w s=>r_fa fa79_5 k z z) fun a k=>dt k 29 z (by kernel_rfl) z s (fun _ _ _=>id) (fun w s=>r_ld1 t13 (r:=[]) (Ag.at ((hMd.step s).a 1 z) 5 1 z z z) k z z) fun a k=>dN [30,31,32] 3 z k (by kernel_rfl) z s (fun _ _ _ _ _=>id) fun a k=>d_done (by kernel_rfl) ?_
         have k:=k.keep [4] z
         refine (nm_then ?_)
         refine wp_ret (fS h k m z z)
       have h:=bif_f Ad h
       refine rB k 50 z Ad fun k=>dN [26,27,28,29,30,31,32] 7 z k (by kernel_rfl) z s (fun _ _ _ _ _=>id) fun a k=>d_done (by kernel_rfl) ?_
       have k:=k.keep [4] z
       refine (nm_then ?_)
       refine wp_ret (fS h k m z z)
     have h:=bif_f Ac h
     refine rB k 41 z Ac fun k=>dN [17,18,19,20,21,22,23,24,25,26,27,28,29,30,31,32] 16 z k (by kernel_rfl) z s (fun _ _ _ _ _=>id) fun a k=>d_done (by kernel_rfl) ?_
     have k:=k.keep [4] z
     refine (nm_then ?_)
     refine wp_ret (fS h k m z z)
   have h:=bif_f Ae h
   refine rB k 32 z Ae fun k=>dN [8,9,10,11,12,13,14,15,16,17,18,19,20,21,22,23,24,25,26,27,28,29,30,31,32] 25 z k (by kernel_rfl) z s (fun _ _ _ _ _=>id) fun a k=>d_done (by kernel_rfl) ?_
   have k:=k.keep [4] z
   refine (nm_then ?_)
   refine wp_ret (fS h k m z z)
 refine d_go [] mixo m z fun Bf hMd=>?_
 have m:=hMd
 have s:=Ext.refl ([]:List Nat) Bf
 refine dt k 0 z (by kernel_rfl) z s (fun _ _ _=>id) (fun w s=>r_fa fa158_1 k z z) fun a k=>dt k 1 z (by kernel_rfl) z s (fun _ _ _=>id) (fun w s=>r_ld1 t13 (r:=[]) (Af.at ((hMd.step s).a 1 z) 1 1 z z z) k z z) fun a k=>dt k 2 z (by kernel_rfl) z s (fun _ _ _=>id) (fun w s=>r_fa fa158_2 k z z) fun a k=>dt k 3 z (by kernel_rfl) z s (fun _ _ _=>id) (fun w s=>r_ld1 t13 (r:=[]) (Af.at ((hMd.step s).a 1 z) 2 1 z z z) k z z) fun a k=>dt k 4 z (by kernel_rfl) z s (fun _ _ _=>id) (fun w s=>r_fa fa158_3 k z z) fun a k=>dt k 5 z (by kernel_rfl) z s (fun _ _ _=>id) (fun w s=>r_ld1 t13 (r:=[]) (Af.at ((hMd.step s).a 1 z) 3 1 z z z) k z z) fun a k=>?_
 refine dt k 7 z (by kernel_rfl) z s (fun _ _ _=>id) (fun w s=>r_fa fa79_1 k z z) fun a k=>dt k 8 z (by kernel_rfl) z s (fun _ _ _=>id) (fun w s=>r_ld1 t13 (r:=[]) (Ag.at ((hMd.step s).a 0 z) 1 1 z z z) k z z) fun a k=>dt k 9 z (by kernel_rfl) z s (fun _ _ _=>id) (fun w s=>r_fa fa79_2 k z z) fun a k=>dt k 10 z (by kernel_rfl) z s (fun _ _ _=>id) (fun w s=>r_ld1 t13 (r:=[]) (Ag.at ((hMd.step s).a 0 z) 2 1 z z z) k z z) fun a k=>dt k 11 z (by kernel_rfl) z s (fun _ _ _=>id) (fun w s=>r_fa fa79_3 k z z) fun a k=>dt k 12 z (by kernel_rfl) z s (fun _ _ _=>id) (fun w s=>r_ld1 t13 (r:=[]) (Ag.at ((hMd.step s).a 0 z) 3 1 z z z) k z z) fun a k=>d_two 6 13 (by kernel_rfl) z z ?_ ?_ 
 · refine s_bsN (cs:=[I x1.fW,I x1.fH,I x1.fD]) (ps:=[(0,.tmp 8),(1,.tmp 10),(2,.tmp 12)]) te63 m k z z z z z z z (by decide) z (by exact (List.forall_mem_cons.2 ⟨z,(List.forall_mem_cons.2 ⟨z,(List.forall_mem_cons.2 ⟨z,(List.forall_mem_nil _)⟩)⟩)⟩)) fun Av Be Ct a k m e Cc Bm=>?_
   have Ck:=lo1 (Nat.le_trans s.size Bm)
   have Bq:=ow_bx Cc ([x1.fW,x1.fH,x1.fD]:List Int) z z z
   have s:=s.trans e (by simp)
   refine wpList_nil ⟨s,?_⟩
   refine dN [14] 1 z k (by kernel_rfl) z s (fun _ _ _ _ _=>id) fun a k=>d_one 13 (by kernel_rfl) z (s_bsN (cs:=[I t2.fW,I t2.fH,I t2.fD]) (ps:=[(0,.tmp 15),(1,.tmp 17),(2,.tmp 19)]) te63 m k z z z z z z z (by decide) z (by exact (List.forall_mem_cons.2 ⟨z,(List.forall_mem_cons.2 ⟨z,(List.forall_mem_cons.2 ⟨z,(List.forall_mem_nil _)⟩)⟩)⟩)) fun Ar Ca Co a k m e Bw Bj=>?_)
   have Ci:=lo1 (Nat.le_trans s.size Bj)
   have Bi:=ow_bx Bw ([t2.fW,t2.fH,t2.fD]:List Int) z z z
   have s:=s.trans e (by simp)
   refine wpList_nil ⟨s,?_⟩
   refine dN [15] 1 z k (by kernel_rfl) z s (fun _ _ _ _ _=>id) fun a k=>d_done (by kernel_rfl) ((nm_then ?_))
   exact ⟨([x1.fW,x1.fH,x1.fD]:List Int),(.slice (some ⟨Av,0,none⟩) 3 3),[Av],Be,([t2.fW,t2.fH,t2.fD]:List Int),(.slice (some ⟨Ar,0,none⟩) 3 3),[Ar],Ca,k.keep [2,3,5,6] z,m.sel [3,2,1,0] z (by decide),Bq,Bi,h⟩
 refine s_bsN (cs:=[I t2.fW,I t2.fH,I t2.fD]) (ps:=[(0,.tmp 15),(1,.tmp 17),(2,.tmp 19)]) te63 m k z z z z z z z (by decide) z (by exact (List.forall_mem_cons.2 ⟨z,(List.forall_mem_cons.2 ⟨z,(List.forall_mem_cons.2 ⟨z,(List.forall_mem_nil _)⟩)⟩)⟩)) fun Aw Bx Cq a k m e Bt Bu=>?_
 have Cn:=lo1 (Nat.le_trans s.size Bu)
 have Bd:=ow_bx Bt ([t2.fW,t2.fH,t2.fD]:List Int) z z z
 have s:=s.trans e (by simp)
 refine wpList_nil ⟨s,?_⟩
 refine d_one 6 (by kernel_rfl) z (s_bsN (cs:=[I x1.fW,I x1.fH,I x1.fD]) (ps:=[(0,.tmp 8),(1,.tmp 10),(2,.tmp 12)]) te63 m k z z z z z z z (by decide) z (by exact (List.forall_mem_cons.2 ⟨z,(List.forall_mem_cons.2 ⟨z,(List.forall_mem_cons.2 ⟨z,(List.forall_mem_nil _)⟩)⟩)⟩)) fun As Ba Ch a k m e Bo Bc=>?_)
 have Cj:=lo1 (Nat.le_trans s.size Bc)
 have Bn:=ow_bx Bo ([x1.fW,x1.fH,x1.fD]:List Int) z z z
 have s:=s.trans e (by simp)
 refine wpList_nil ⟨s,?_⟩
 refine dN [14,15] 2 z k (by kernel_rfl) z s (fun _ _ _ _ _=>id) fun a k=>d_done (by kernel_rfl) ((nm_then ?_))
 exact ⟨([x1.fW,x1.fH,x1.fD]:List Int),(.slice (some ⟨As,0,none⟩) 3 3),[As],Ba,([t2.fW,t2.fH,t2.fD]:List Int),(.slice (some ⟨Aw,0,none⟩) 3 3),[Aw],Bx,k.keep [2,3,5,6] z,m.sel [3,2,0,1] z (by decide),Bn,Bd,h⟩
theorem c_impl_Class_1 (fu:Nat) {w0:World} (x1:Item) (x2:Typ) {b3:Nat} (Aa:bx w0 b3 [I x2.fId,I x2.fW,I x2.fH,I x2.fD,I x2.fTare,I x2.fGram,I x2.fCost] 79) {r:Bool}
    (h:d_impl_Class_1 fu x1 x2 = some r) :
    Calls Tryz.prog 274 #[.agg (Flat.e (x1)).toArray,.pointer (some (⟨b3,0,none⟩:Addr))] w0 fun e w=>e = .returned (.bool (r)) ∧ Ext [] w0 w:=by
 refine enter (vs:=[_,_]) func274 z ntmps274 z fun a k=>?_
 have m:=St.start w0
 unfold d_impl_Class_1 at h
 refine wr (s_box (cs:=[I x1.fId,I x1.fW,I x1.fH,I x1.fD,I x1.fGram,I x1.fClass,I x1.fCount]) m k z z z z z z fun b5 w7 a k m e Ac=>pN 1 k z fun a k=>nn (wr (sv k z (r_ldB ta158 m 0 Ac 0 k z z z z z z) fun a k=>sv k z (r_ldA ta79 (Aa.at (m.a00 Aa.lt1) 0 7 z z z) z k z z) fun a k=>oE h fun x8 Ab h=>cE k m call151 z z z (c_impl_Fits fu (x1:Item) (x2:Typ)  Ab) fun Ad e a k m=>pN 2 k z fun a k=>nn (wp_ret (fS h k m z z)))))
theorem c_impl_Class_2 (fu:Nat) {w0:World} (t1:Typ) (x2:Pallet) {b3:Nat} (Aa:bx w0 b3 [I x2.fW,I x2.fD,I x2.fH,I x2.fGram] 33) {r:Bool}
    (h:d_impl_Class_2 fu t1 x2 = some r) :
    Calls Tryz.prog 276 #[.agg (Flat.e (t1)).toArray,.pointer (some (⟨b3,0,none⟩:Addr))] w0 fun e w=>e = .returned (.bool (r)) ∧ Ext [] w0 w:=by
 refine enter (vs:=[_,_]) func276 z ntmps276 z fun a k=>?_
 have m:=St.start w0
 unfold d_impl_Class_2 at h
 refine wr (s_box (cs:=[I t1.fId,I t1.fW,I t1.fH,I t1.fD,I t1.fTare,I t1.fGram,I t1.fCost]) m k z z z z z z fun b5 w7 a k m e Ab=>pN 1 k z fun a k=>nn (wr (sv k z (r_fa fa79_1 k z z) fun a k=>sv k z (r_ldb t13 m 0 Ab 1 k z z z z z) fun a k=>sv k z (r_fa fa33_0 k z z) fun a k=>sv k z (r_ld1 t13 (r:=[]) (Aa.at (m.a00 Aa.lt1) 0 1 z z z) k z z) fun a k=>pN 2 k z fun a k=>bsplit (decide (t1.fW > x2.fW)) (fun Ac=>?_) (fun Ac=>?_))))
 · have h:=bif_t Ac h
   refine rB k 9 z Ac fun k=>pN 24 k z fun a k=>?_
   have k:=k.keep [3] z
   refine nn (wp_ret (fS h k m z z))
 have h:=bif_f Ac h
 refine rB k 9 z Ac fun k=>sv k z (r_fa fa79_3 k z z) fun a k=>sv k z (r_ldb t13 m 0 Ab 3 k z z z z z) fun a k=>sv k z (r_fa fa33_1 k z z) fun a k=>sv k z (r_ld1 t13 (r:=[]) (Aa.at (m.a00 Aa.lt1) 1 1 z z z) k z z) fun a k=>pN 3 k z fun a k=>bsplit (decide (t1.fD > x2.fD)) (fun Ae=>?_) (fun Ae=>?_)
 · have h:=bif_t Ae h
   refine rB k 16 z Ae fun k=>pN 17 k z fun a k=>?_
   have k:=k.keep [3] z
   refine nn (wp_ret (fS h k m z z))
 have h:=bif_f Ae h
 refine rB k 16 z Ae fun k=>sv k z (r_fa fa79_2 k z z) fun a k=>sv k z (r_ldb t13 m 0 Ab 2 k z z z z z) fun a k=>sv k z (r_fa fa33_2 k z z) fun a k=>sv k z (r_ld1 t13 (r:=[]) (Aa.at (m.a00 Aa.lt1) 2 1 z z z) k z z) fun a k=>pN 3 k z fun a k=>bsplit (decide (t1.fH > x2.fH)) (fun Ad=>?_) (fun Ad=>?_)
 · have h:=bif_t Ad h
   refine rB k 23 z Ad fun k=>pN 10 k z fun a k=>?_
   have k:=k.keep [3] z
   refine nn (wp_ret (fS h k m z z))
 have h:=bif_f Ad h
 refine rB k 23 z Ad fun k=>sv k z (r_fa fa79_4 k z z) fun a k=>sv k z (r_ldb t13 m 0 Ab 4 k z z z z z) fun a k=>sv k z (r_fa fa79_5 k z z) fun a k=>sv k z (r_ldb t13 m 0 Ab 5 k z z z z z) fun a k=>pN 1 k z fun a k=>sv k z (r_fa fa33_3 k z z) fun a k=>sv k z (r_ld1 t13 (r:=[]) (Aa.at (m.a00 Aa.lt1) 3 1 z z z) k z z) fun a k=>pN 3 k z fun a k=>?_
 have k:=k.keep [3] z
 refine nn (wp_ret (fS h k m z z))
theorem c_impl_Class (fu:Nat) {w0:World} (r1:Request) {Af:List Value} {F3:List Nat} (Az:rd w0 F3 Af r1) {r:Int}
    (h:d_impl_Class fu r1 = some r) :
    Calls Tryz.prog 220 #[.agg Af.toArray] w0 fun e w=>e = .returned (I r) ∧ Ext [] w0 w:=by
 refine enter (vs:=[_]) func220 z ntmps220 z fun a k=>?_
 have m:=St.start w0
 obtain ⟨v5,F6,v7,F8,v9,Bc,rfl,rfl,Ac,Aa,Ad⟩:=Az
 unfold d_impl_Class at h
 refine wr (s_box (cs:=[I r1.fWay,I r1.fPallet.fW,I r1.fPallet.fD,I r1.fPallet.fH,I r1.fPallet.fGram,I r1.fClasses,v5,v7,I r1.fMaster,v9]) m k z z z z z z fun Bm Br a k m e Ab=>pN 1 k z fun a k=>nn (wr (sv k z (r_ldB ta38 m 0 Ab 0 k z z z z z z) fun a k=>oE h fun Ae Ax h=>cE k m call250 z z z (c_impl_MasterOf fu _ (show rd _ _ [I r1.fWay,I r1.fPallet.fW,I r1.fPallet.fD,I r1.fPallet.fH,I r1.fPallet.fGram,I r1.fClasses,v5,v7,I r1.fMaster,v9] (r1:Request) from ⟨_,_,_,_,_,_,z,z,(Enc.rd_agr Ac (m.a00 (Enc.rd_lt Ac))),(Enc.rd_agr Aa (m.a00 (Enc.rd_lt Aa))),(Enc.rd_agr Ad (m.a00 (Enc.rd_lt Ad)))⟩) Ax) fun Bs e a k m=>?_)))
 refine pN 3 k z fun a k=>s_alloc (cs:=[I 0,I 0,I 0,I 0,I 0,I 0,I 0]) m k zeroValue79 z z z z z fun Ap Bv a k m e Aj=>s_stb (cs':=[I Ae.1.fId,I Ae.1.fW,I Ae.1.fH,I Ae.1.fD,I Ae.1.fTare,I Ae.1.fGram,I Ae.1.fCost]) sizeOf79 m 0 Aj 0 k z z z z z z z z z z z fun Bt a k e m Ay=>pN 1 k z fun a k=>nn (wr (sv k z (r_fa fa38_1 k z z) fun a k=>sv k z (r_ldB ta33 m 1 Ab 1 k z z z z z z) fun a k=>s_alloc (cs:=[I 0,I 0,I 0,I 0]) m k zeroValue33 z z z z z fun Ar Bk a k m e As=>?_))
 refine s_stb (cs':=[I r1.fPallet.fW,I r1.fPallet.fD,I r1.fPallet.fH,I r1.fPallet.fGram]) sizeOf33 m 0 As 0 k z z z z z z z z z z z fun Bd a k e m Ah=>nn (wp_seq (wp_block (wr (sv k z (r_ldB ta38 m 2 Ab 0 k z z z z z z) fun a k=>oE h fun Bb At h=>cE k m call271 z z z (c_impl_BoundsOk fu _ (show rd _ _ [I r1.fWay,I r1.fPallet.fW,I r1.fPallet.fD,I r1.fPallet.fH,I r1.fPallet.fGram,I r1.fClasses,v5,v7,I r1.fMaster,v9] (r1:Request) from ⟨_,_,_,_,_,_,z,z,(Enc.rd_agr Ac (m.a00 (Enc.rd_lt Ac))),(Enc.rd_agr Aa (m.a00 (Enc.rd_lt Aa))),(Enc.rd_agr Ad (m.a00 (Enc.rd_lt Ad)))⟩) At) fun Bl e a k m=>pN 2 k z fun a k=>nn ?_))))
 refine cI h k z (fun Av h=>?_) fun Av h=>?_
 · refine wr (pN 1 k z fun a k=>nn (wp_ret (rt_block (rt_then ?_))))
   refine fS h k m z z
 refine wr (sv k z (r_ldB ta38 m 2 Ab 0 k z z z z z z) fun a k=>oE h fun Bi Aw h=>cE k m call272 z z z (c_impl_namesOk fu _ (show rd _ _ [I r1.fWay,I r1.fPallet.fW,I r1.fPallet.fD,I r1.fPallet.fH,I r1.fPallet.fGram,I r1.fClasses,v5,v7,I r1.fMaster,v9] (r1:Request) from ⟨_,_,_,_,_,_,z,z,(Enc.rd_agr Ac (m.a00 (Enc.rd_lt Ac))),(Enc.rd_agr Aa (m.a00 (Enc.rd_lt Aa))),(Enc.rd_agr Ad (m.a00 (Enc.rd_lt Ad)))⟩) Aw) fun Bo e a k m=>pN 2 k z fun a k=>nn (cI h k z (fun Ag h=>?_) fun Ag h=>?_))
 · refine wr (pN 1 k z fun a k=>nn (wp_ret (rt_block (rt_then ?_))))
   refine fS h k m z z
 refine wr (sv k z (r_fa fa38_3 k z z) fun a k=>sv k z (r_ldb t134 m 2 Ab 6 k z z z z z) fun a k=>sv k z (r_fa fa38_2 k z z) fun a k=>sv k z (r_ldb t13 m 2 Ab 5 k z z z z z) fun a k=>oE h fun Bu Ba h=>cE k m call273 z z z (c_impl_TableOk fu _ _ (Enc.rd_agr Ac (m.a00 (Enc.rd_lt Ac))) Ba) fun Bp e a k m=>pN 2 k z fun a k=>?_)
 have k:=k.keep [1,3,5,21] z
 refine nn (cI h k z (fun Ak h=>?_) fun Ak h=>?_)
 · refine wr (pN 1 k z fun a k=>nn (wp_ret (rt_block (rt_then ?_))))
   refine fS h k m z z
 refine wr (sv k z (r_fa fa38_6 k z z) fun a k=>sv k z (r_ldb t136 m 2 Ab 9 k z z z z z) fun a k=>pN 1 k z fun a k=>oE h fun Bh Aq h=>cE k m call148 z z z (c_slices_ContainsFunc_impl_Item_impl_Item fu _ _ (Enc.rd_agr Ad (m.a00 (Enc.rd_lt Ad))) ⟨274,[.pointer (some (⟨Ap,0,none⟩:Addr))],z,call274,fun w Bj Bw r e Al hx=>by subst Al; have m:=m.step e; exact c_impl_Class_1 fu _ _ (Ay.agr (m.a 1 rfl) (by simp)) hx⟩ Aq) fun Bn e a k m=>pN 1 k rfl fun a k=>nn (cI h k rfl (fun Ai h=>?_) fun Ai h=>?_))
 · refine wr (pN 1 k z fun a k=>nn (wp_ret (rt_block (rt_then ?_))))
   refine fS h k m z z
 refine wr (sv k z (r_fa fa38_4 k z z) fun a k=>sv k z (r_ldb t135 m 2 Ab 7 k z z z z z) fun a k=>pN 1 k z fun a k=>oE h fun Bg Am h=>cE k m call275 z z z (c_slices_ContainsFunc_impl_Type_impl_Type fu _ _ (Enc.rd_agr Aa (m.a00 (Enc.rd_lt Aa))) ⟨276,[.pointer (some (⟨Ar,0,none⟩:Addr))],z,call276,fun w Bq Bf r e Au hx=>by subst Au; have m:=m.step e; exact c_impl_Class_2 fu _ _ (Ah.agr (m.a 0 rfl) (by simp)) hx⟩ Am) fun Be e a k m=>pN 1 k rfl fun a k=>nn (cI h k rfl (fun Ao h=>?_) fun Ao h=>?_))
 · refine wr (pN 1 k z fun a k=>nn (wp_ret (rt_block (rt_then ?_))))
   refine fS h k m z z
 refine wp_skip (nm_block (nm_then ?_))
 refine wr (pN 1 k z fun a k=>nn (wp_ret (fS h k m z z)))
theorem c_impl_sound (fu:Nat) {w0:World} (r1:Request) {Ab:List Value} {F3:List Nat} (Af:rd w0 F3 Ab r1) {r:Bool}
    (h:d_impl_sound fu r1 = some r) :
    Calls Tryz.prog 115 #[.agg Ab.toArray] w0 fun e w=>e = .returned (.bool (r)) ∧ Ext [] w0 w:=by
 refine enter (vs:=[_]) func115 z ntmps115 z fun a k=>?_
 have m:=St.start w0
 obtain ⟨v5,F6,v7,F8,v9,Ai,rfl,rfl,Ac,Ad,Aa⟩:=Af
 unfold d_impl_sound at h
 refine wr (s_box (cs:=[I r1.fWay,I r1.fPallet.fW,I r1.fPallet.fD,I r1.fPallet.fH,I r1.fPallet.fGram,I r1.fClasses,v5,v7,I r1.fMaster,v9]) m k z z z z z z fun Ah Aj a k m e Ag=>pN 1 k z fun a k=>nn (wr (sv k z (r_ldB ta38 m 0 Ag 0 k z z z z z z) fun a k=>oE h fun Al Ae h=>cE k m call220 z z z (c_impl_Class fu _ (show rd _ _ [I r1.fWay,I r1.fPallet.fW,I r1.fPallet.fD,I r1.fPallet.fH,I r1.fPallet.fGram,I r1.fClasses,v5,v7,I r1.fMaster,v9] (r1:Request) from ⟨_,_,_,_,_,_,z,z,(Enc.rd_agr Ac (m.a00 (Enc.rd_lt Ac))),(Enc.rd_agr Ad (m.a00 (Enc.rd_lt Ad))),(Enc.rd_agr Aa (m.a00 (Enc.rd_lt Aa)))⟩) Ae) fun Ak e a k m=>?_)))
 refine pN 2 k z fun a k=>nn (wp_ret (fS h k m z z))
theorem c_impl_unitsRight (fu:Nat) {w0:World} (Ac:List Int) {v2:Value} {F3:List Nat} (Aa:rd w0 F3 [v2] Ac) {r:Bool}
    (h:d_impl_unitsRight fu Ac = some r) :
    Calls Tryz.prog 221 #[v2] w0 fun e w=>e = .returned (.bool (r)) ∧ Ext [] w0 w:=by
 refine enter (vs:=[_]) func221 z ntmps221 z fun a k=>?_
 have m:=St.start w0
 unfold d_impl_unitsRight at h
 refine wr (pN 1 k z fun a k=>nn (wp_seq (wr (pN 1 k z fun a k=>sv k z (r_len (α:=Int) Aa k underlying63 z z) fun a k=>pN 1 k z fun a k=>nn (wp_block (c_loop (fun n a w=>∃ (Ab:Int),K 32 [(0,v2),(5,v2),(6,I ((Ac.length:Int))),(7,I Ab)] a ∧ St [] w0 w [] ∧ d_impl_unitsRight_L1 fu Ac n Ab = some r) ?_ ?_ fu _ _ ?_))))))
 · rintro a w ⟨_,_,_,h⟩
   exact nS h
 · rintro Ah a Aq ⟨Ab,k,m,h⟩
   rw [d_impl_unitsRight_L1_s] at h
   unfold d_impl_unitsRight_L1_B at h
   refine wr (pN 1 k z fun a k=>nn (wp_seq (cI h k z (fun Al h=>?_) fun Al h=>?_)))
   · refine wp_skip (nm_then ?_)
     refine c_cut (fun a w=>K 32 [(0,v2),(5,v2),(6,I ((Ac.length:Int))),(7,I Ab)] a ∧ St [] w0 w [] ∧ d_impl_unitsRight_J1 fu (d_impl_unitsRight_L1 fu Ac Ah) Ab = some r) ?_ ?_
     · rintro a Am ⟨k,m,h⟩
       unfold d_impl_unitsRight_J1 at h
       refine wp_region_lit (pN 2 k z fun a k=>nn ?_)
       exact ⟨w64 (Ab + 1),k.keep [0,5,6,7] z,m.sel [] z (by decide),h⟩
     refine wp_block (wr (pN 1 k z fun a k=>oE h fun Ap Ag h=>sv k z (r_ixa Aa Ag k ts63 z z z) fun a k=>sv k z (r_lde1 Aa (m.a00 (Enc.rd_lt Aa)) Ag 0 t13 k z z z z) fun a k=>pN 2 k z fun a k=>nn (wr (pN 1 k z fun a k=>oE h fun Aj Ak h=>cE k m call139 z z z (c_impl_in fu _ _ _  Ak) fun Ar e a k m=>pN 2 k z fun a k=>bsplit (!Aj) (fun Ad=>?_) (fun Ad=>?_)))))
     · have h:=bif_t Ad h
       refine rB k 15 z Ad fun k=>pN 12 k z fun a k=>nn (wp_cond_true (k.ev z) (wr (pN 1 k z fun a k=>nn (wp_ret (rt_block (rt_then (rt_then (rt_block (rt_then ?_)))))))))
       refine fS h k m z z
     have h:=bif_f Ad h
     refine rB k 15 z Ad fun k=>pN 3 k z fun a k=>bsplit (decide (Ab > 0)) (fun Ae=>?_) (fun Ae=>?_)
     · have h:=bif_t Ae h
       refine rB k 18 z Ae fun k=>pN 3 k z fun a k=>oE h fun Ao Af h=>sv k z (r_ixa Aa Af k ts63 z z z) fun a k=>sv k z (r_lde1 Aa (m.a00 (Enc.rd_lt Aa)) Af 0 t13 k z z z z) fun a k=>pN 4 k z fun a k=>nn (cI h k z (fun Ai h=>?_) fun Ai h=>?_)
       · refine wr (pN 1 k z fun a k=>nn (wp_ret (rt_block (rt_then (rt_then (rt_block (rt_then ?_)))))))
         refine fS h k m z z
       refine wp_skip (nm_block (nm_then ?_))
       exact ⟨k.keep [0,5,6,7] z,m.sel [] z (by decide),h⟩
     have h:=bif_f Ae h
     refine rB k 18 z Ae fun k=>pN 9 k z fun a k=>nn (wp_cond_false (k.ev z) (wp_skip (nm_block (nm_then ?_))))
     exact ⟨k.keep [0,5,6,7] z,m.sel [] z (by decide),h⟩
   refine wp_exit (ex_then (ex_then (ex_same (nm_then ?_))))
   refine wr (pN 1 k z fun a k=>sv k z (r_len (α:=Int) Aa k underlying63 z z) fun a k=>pN 2 k z fun a k=>nn (wp_ret (fS h k m z z)))
 exact ⟨0,k.keep [0,5,6,7] z,m.sel [] z (by decide),h⟩
theorem c_impl_isPlace (fu:Nat) {w0:World} (n1:Int)  {r:Bool}
    (h:d_impl_isPlace fu n1 = some r) :
    Calls Tryz.prog 153 #[I n1] w0 fun e w=>e = .returned (.bool (r)) ∧ Ext [] w0 w:=by
 refine enter (vs:=[_]) func153 z ntmps153 z fun a k=>?_
 have m:=St.start w0
 unfold d_impl_isPlace at h
 refine wr (pN 1 k z fun a k=>nn (wr (pN 1 k z fun a k=>oE h fun x2 Aa h=>cE k m call139 z z z (c_impl_in fu _ _ _  Aa) fun w5 e a k m=>pN 1 k z fun a k=>nn (wp_ret (fS h k m z z)))))
theorem c_impl_PlanOk (fu:Nat) {w0:World} (x1:Plan) {Au:List Value} {F3:List Nat} (Bs:rd w0 F3 Au x1) {r:Bool}
    (h:d_impl_PlanOk fu x1 = some r) :
    Calls Tryz.prog 116 #[.agg Au.toArray] w0 fun e w=>e = .returned (.bool (r)) ∧ Ext [] w0 w:=by
 refine enter (vs:=[_]) func116 z ntmps116 z fun a k=>?_
 have m:=St.start w0
 obtain ⟨v5,F6,v7,F8,rfl,rfl,Aa,Am⟩:=Bs
 unfold d_impl_PlanOk at h
 refine wr (s_box (cs:=[v5,v7]) m k z z z z z z fun Ab Ar a k m e Ak=>pN 1 k z fun a k=>nn (c_cut (fun a w=>K 73 [(1,.pointer (some (⟨Ab,0,none⟩:Addr)))] a ∧ St [] w0 w [([Ab],Ar)] ∧ d_impl_PlanOk_J2 fu x1 = some r) ?_ ?_))
 · rintro a Ch ⟨k,m,h⟩
   unfold d_impl_PlanOk_J2 at h
   refine wp_seq (wr (sv k z (r_fa fa58_0 k z z) fun a k=>sv k z (r_ldb t155 m 0 Ak 0 k z z z z z) fun a k=>sv k z (r_len (α:=Carton) Aa k underlying55 z z) fun a k=>pN 1 k z fun a k=>nn (wp_block (c_loop (fun n a w=>∃ (Ac:Int),K 73 [(1,.pointer (some (⟨Ab,0,none⟩:Addr))),(20,v5),(21,I ((x1.fCartons.length:Int))),(22,I Ac)] a ∧ St [] w0 w [([Ab],Ar)] ∧ d_impl_PlanOk_L1 fu x1 n Ac = some r) ?_ ?_ fu _ _ ?_))))
   · rintro a w ⟨_,_,_,h⟩
     exact nS h
   · rintro Be a Bz ⟨Ac,k,m,h⟩
     rw [d_impl_PlanOk_L1_s] at h
     unfold d_impl_PlanOk_L1_B at h
     refine wr (pN 1 k z fun a k=>nn (wp_seq (cI h k z (fun Bn h=>?_) fun Bn h=>?_)))
     · refine wp_skip (nm_then ?_)
       refine c_cut (fun a w=>K 73 [(1,.pointer (some (⟨Ab,0,none⟩:Addr))),(20,v5),(21,I ((x1.fCartons.length:Int))),(22,I Ac)] a ∧ St [] w0 w [([Ab],Ar)] ∧ d_impl_PlanOk_J1 fu (d_impl_PlanOk_L1 fu x1 Be) Ac = some r) ?_ ?_
       · rintro a Ci ⟨k,m,h⟩
         unfold d_impl_PlanOk_J1 at h
         refine wp_region_lit (pN 2 k z fun a k=>nn ?_)
         exact ⟨w64 (Ac + 1),k.keep [1,20,21,22] z,m.sel [0] z (by decide),h⟩
       refine wp_block (wr (pN 1 k z fun a k=>oE h fun At Av h=>sv k z (r_ixa Aa Av k ts55 z z z) fun a k=>?_))
       obtain ⟨Bv,Cc,Cf,Ba,Bj,Bg⟩:=rd_get Aa (ix_some Av).2.2
       obtain ⟨Bt,_,rfl,rfl,Aq⟩:=Ba
       refine sv k z (r_ldA ta83 (Bj.agr (m.a00 (Enc.rd_lt Aa)) Bg) z k z z) fun a k=>s_alloc (cs:=[I 0,I 0,.slice none 0 0]) m k zeroValue83 z z z z z fun Cj Bw a k m e Bf=>pN 1 k z fun a k=>s_stb (cs':=[I At.fType,I At.fGroup,Bt]) sizeOf83 m 0 Bf 0 k z z z z z z z z z z (allc z (allc z (allc (rd_o Aq) alln))) fun Bx a k e m Ap=>nn (wr (sv k z (r_fa fa58_1 k z z) fun a k=>sv k z (r_ldb t156 m 1 Ak 1 k z z z z z) fun a k=>pN 1 k z fun a k=>oE h fun Ao As h=>sv k z (r_ixa Am As k ts56 z z z) fun a k=>sv k z (r_lde Am (m.a00 (Enc.rd_lt Am)) As ta89 k z z) fun a k=>?_))
       refine s_alloc (cs:=[I 0,I 0,I 0,I 0]) m k zeroValue89 z z z z z fun Ca Cd a k m e Bh=>s_stb (cs':=[I Ao.fPallet,I Ao.fX,I Ao.fY,I Ao.fZ]) sizeOf89 m 0 Bh 0 k z z z z z z z z z z z fun Cg a k e m Al=>nn (wr (sv k z (r_fa fa83_0 k z z) fun a k=>sv k z (r_ldb t13 m 1 Ap 0 k z z z z z) fun a k=>oE h fun Ax Bb h=>cE k m call139 z z z (c_impl_in fu _ _ _  Bb) fun Cl e a k m=>pN 2 k z fun a k=>bsplit (!Ax) (fun Ag=>?_) (fun Ag=>?_)))
       · have h:=bif_t Ag h
         refine rB k 36 z Ag fun k=>pN 35 k z fun a k=>?_
         have k:=k.keep [1,20,21,22,71] z
         refine nn (wp_cond_true (k.ev z) (wr (pN 1 k z fun a k=>nn (wp_ret (rt_block (rt_then (rt_then (rt_block (rt_then ?_)))))))))
         refine fS h k m z z
       have h:=bif_f Ag h
       refine rB k 36 z Ag fun k=>sv k z (r_fa fa83_1 k z z) fun a k=>sv k z (r_ldb t13 m 1 Ap 1 k z z z z z) fun a k=>oE h fun Bd Bq h=>cE k m call139 z z z (c_impl_in fu _ _ _  Bq) fun Ce e a k m=>pN 3 k z fun a k=>bsplit (!Bd) (fun Ah=>?_) (fun Ah=>?_)
       · have h:=bif_t Ah h
         refine rB k 42 z Ah fun k=>pN 29 k z fun a k=>?_
         have k:=k.keep [1,20,21,22,71] z
         refine nn (wp_cond_true (k.ev z) (wr (pN 1 k z fun a k=>nn (wp_ret (rt_block (rt_then (rt_then (rt_block (rt_then ?_)))))))))
         refine fS h k m z z
       have h:=bif_f Ah h
       refine rB k 42 z Ah fun k=>sv k z (r_fa fa83_2 k z z) fun a k=>sv k z (r_ldb t163 m 1 Ap 2 k z z z z z) fun a k=>oE h fun Bk Aw h=>cE k m call221 z z z (c_impl_unitsRight fu _ (Enc.rd_agr Aq (m.a00 (Enc.rd_lt Aq))) Aw) fun Ck e a k m=>pN 3 k z fun a k=>bsplit (!Bk) (fun Af=>?_) (fun Af=>?_)
       · have h:=bif_t Af h
         refine rB k 48 z Af fun k=>pN 23 k z fun a k=>?_
         have k:=k.keep [1,20,21,22,71] z
         refine nn (wp_cond_true (k.ev z) (wr (pN 1 k z fun a k=>nn (wp_ret (rt_block (rt_then (rt_then (rt_block (rt_then ?_)))))))))
         refine fS h k m z z
       have h:=bif_f Af h
       refine rB k 48 z Af fun k=>sv k z (r_fa fa89_0 k z z) fun a k=>sv k z (r_ldb t13 m 0 Al 0 k z z z z z) fun a k=>oE h fun Bo Bc h=>cE k m call153 z z z (c_impl_isPlace fu _  Bc) fun By e a k m=>pN 3 k z fun a k=>bsplit (!Bo) (fun Ai=>?_) (fun Ai=>?_)
       · have h:=bif_t Ai h
         refine rB k 54 z Ai fun k=>pN 17 k z fun a k=>?_
         have k:=k.keep [1,20,21,22,71] z
         refine nn (wp_cond_true (k.ev z) (wr (pN 1 k z fun a k=>nn (wp_ret (rt_block (rt_then (rt_then (rt_block (rt_then ?_)))))))))
         refine fS h k m z z
       have h:=bif_f Ai h
       refine rB k 54 z Ai fun k=>sv k z (r_fa fa89_1 k z z) fun a k=>sv k z (r_ldb t13 m 0 Al 1 k z z z z z) fun a k=>oE h fun Bi Ay h=>cE k m call153 z z z (c_impl_isPlace fu _  Ay) fun Cn e a k m=>pN 3 k z fun a k=>bsplit (!Bi) (fun Ae=>?_) (fun Ae=>?_)
       · have h:=bif_t Ae h
         refine rB k 60 z Ae fun k=>pN 11 k z fun a k=>?_
         have k:=k.keep [1,20,21,22,71] z
         refine nn (wp_cond_true (k.ev z) (wr (pN 1 k z fun a k=>nn (wp_ret (rt_block (rt_then (rt_then (rt_block (rt_then ?_)))))))))
         refine fS h k m z z
       have h:=bif_f Ae h
       refine rB k 60 z Ae fun k=>sv k z (r_fa fa89_2 k z z) fun a k=>sv k z (r_ldb t13 m 0 Al 2 k z z z z z) fun a k=>oE h fun Br Az h=>cE k m call153 z z z (c_impl_isPlace fu _  Az) fun Cm e a k m=>pN 3 k z fun a k=>bsplit (!Br) (fun Ad=>?_) (fun Ad=>?_)
       · have h:=bif_t Ad h
         refine rB k 66 z Ad fun k=>pN 5 k z fun a k=>?_
         have k:=k.keep [1,20,21,22,71] z
         refine nn (wp_cond_true (k.ev z) (wr (pN 1 k z fun a k=>nn (wp_ret (rt_block (rt_then (rt_then (rt_block (rt_then ?_)))))))))
         refine fS h k m z z
       have h:=bif_f Ad h
       refine rB k 66 z Ad fun k=>sv k z (r_fa fa89_3 k z z) fun a k=>sv k z (r_ldb t13 m 0 Al 3 k z z z z z) fun a k=>oE h fun Cb Bl h=>cE k m call153 z z z (c_impl_isPlace fu _  Bl) fun Bu e a k m=>pN 2 k z fun a k=>?_
       have k:=k.keep [1,20,21,22,71] z
       refine nn (cI h k z (fun Bp h=>?_) fun Bp h=>?_)
       · refine wr (pN 1 k z fun a k=>nn (wp_ret (rt_block (rt_then (rt_then (rt_block (rt_then ?_)))))))
         refine fS h k m z z
       refine wp_skip (nm_block (nm_then ?_))
       exact ⟨k.keep [1,20,21,22] z,m.sel [2] z (by decide),h⟩
     refine wp_exit (ex_then (ex_then (ex_same (nm_then ?_))))
     refine wr (pN 1 k z fun a k=>nn (wp_ret (fS h k m z z)))
   exact ⟨0,k.keep [1,20,21,22] z,m.sel [0] z (by decide),h⟩
 refine wr (sv k z (r_fa fa58_1 k z z) fun a k=>sv k z (r_ldb t156 m 0 Ak 1 k z z z z z) fun a k=>sv k z (r_len (α:=Spot) Am k underlying56 z z) fun a k=>sv k z (r_fa fa58_0 k z z) fun a k=>sv k z (r_ldb t155 m 0 Ak 0 k z z z z z) fun a k=>sv k z (r_len (α:=Carton) Aa k underlying55 z z) fun a k=>pN 2 k z fun a k=>bsplit (((x1.fSpots.length:Int)) != ((x1.fCartons.length:Int))) (fun Aj=>?_) (fun Aj=>?_))
 · have h:=bif_t Aj h
   refine rB k 13 z Aj fun k=>pN 5 k z fun a k=>nn (wp_cond_true (k.ev z) (wr (pN 1 k z fun a k=>nn (wp_ret (rt_then ?_)))))
   refine fS h k m z z
 have h:=bif_f Aj h
 refine rB k 13 z Aj fun k=>sv k z (r_fa fa58_0 k z z) fun a k=>sv k z (r_ldb t155 m 0 Ak 0 k z z z z z) fun a k=>sv k z (r_len (α:=Carton) Aa k underlying55 z z) fun a k=>pN 2 k z fun a k=>nn (cI h k z (fun Bm h=>?_) fun Bm h=>?_)
 · refine wr (pN 1 k z fun a k=>nn (wp_ret (rt_then ?_)))
   refine fS h k m z z
 refine wp_skip (nm_then ?_)
 exact ⟨k.keep [1] z,m.sel [0] z (by decide),h⟩
theorem c_slices_IndexFunc_impl_Carton_impl_Carton (fu:Nat) {w0:World} (Aa:List Carton) (f5:Carton → Option Bool) {v2:Value} {F3:List Nat} (Ac:rd w0 F3 [v2] Aa) {v6:Value} (Al:FnOk1 Tryz.prog w0 v6 f5) {r:Int}
    (h:d_slices_IndexFunc_impl_Carton_impl_Carton fu Aa f5 = some r) :
    Calls Tryz.prog 222 #[v2,v6] w0 fun e w=>e = .returned (I r) ∧ Ext [] w0 w:=by
 refine enter (vs:=[_,_]) func222 z ntmps222 z fun a k=>?_
 have m:=St.start w0
 obtain ⟨As,Aj,rfl,Ah,Ar⟩:=Al
 unfold d_slices_IndexFunc_impl_Carton_impl_Carton at h
 refine wr (pN 1 k z fun a k=>nn (wp_seq (wr (pN 1 k z fun a k=>sv k z (r_len (α:=Carton) Ac k underlying55 z z) fun a k=>pN 1 k z fun a k=>nn (wp_block (c_loop (fun n a w=>∃ (Ab:Int),K 19 [(0,v2),(1,(.func (.func As) #[] Aj.toArray)),(7,I ((Aa.length:Int))),(8,I Ab)] a ∧ St [] w0 w [] ∧ d_slices_IndexFunc_impl_Carton_impl_Carton_L1 fu Aa f5 n Ab = some r) ?_ ?_ fu _ _ ?_))))))
 · rintro a w ⟨_,_,_,h⟩
   exact nS h
 · rintro Ax a Au ⟨Ab,k,m,h⟩
   rw [d_slices_IndexFunc_impl_Carton_impl_Carton_L1_s] at h
   unfold d_slices_IndexFunc_impl_Carton_impl_Carton_L1_B at h
   refine wr (pN 1 k z fun a k=>nn (wp_seq (cI h k z (fun Ao h=>?_) fun Ao h=>?_)))
   · refine wp_skip (nm_then ?_)
     refine wp_seq (wp_block (wr (pN 2 k z fun a k=>nn (wr (pN 3 k z fun a k=>oE h fun Ad Ae h=>sv k z (r_ixa Ac Ae k ts55 z z z) fun a k=>?_)))))
     obtain ⟨Av,Az,Ba,Aq,Ak,Ag⟩:=rd_get Ac (ix_some Ae).2.2
     obtain ⟨Am,_,rfl,rfl,Af⟩:=Aq
     refine sv k z (r_ldA ta83 (Ak.agr (m.a00 (Enc.rd_lt Ac)) Ag) z k z z) fun a k=>oE h fun Ay Ap h=>s_callv k Ah z z z z z z (Ar _ _ _ _ m.ext ⟨_,_,z,(show rd _ _ [I Ad.fType,I Ad.fGroup,Am] (Ad:Carton) from ⟨_,_,z,z,(Enc.rd_agr Af (m.a00 (Enc.rd_lt Af)))⟩)⟩ Ap) fun At Aw hR=>?_
     obtain ⟨rfl,e⟩:=hR
     refine ⟨_,z,fun a k=>?_⟩
     have m:=m.step e
     refine nn (cI h k z (fun Ai h=>?_) fun Ai h=>?_)
     · refine wr (pN 2 k z fun a k=>nn (wp_ret (rt_block (rt_then (rt_then (rt_block (rt_then ?_)))))))
       refine fS h k m z z
     refine wp_skip (nm_block (nm_then ?_))
     refine wp_region_lit (pN 2 k z fun a k=>nn ?_)
     exact ⟨w64 (Ab + 1),k.keep [0,1,7,8] z,m.sel [] z (by decide),h⟩
   refine wp_exit (ex_then (ex_then (ex_same (nm_then ?_))))
   refine wr (pN 1 k z fun a k=>nn (wp_ret (fS h k m z z)))
 exact ⟨0,k.keep [0,1,7,8] z,m.sel [] z (by decide),h⟩
theorem c_slices_ContainsFunc_impl_Carton_impl_Carton (fu:Nat) {w0:World} (Aa:List Carton) (f5:Carton → Option Bool) {v2:Value} {F3:List Nat} (Ab:rd w0 F3 [v2] Aa) {v6:Value} (Ad:FnOk1 Tryz.prog w0 v6 f5) {r:Bool}
    (h:d_slices_ContainsFunc_impl_Carton_impl_Carton fu Aa f5 = some r) :
    Calls Tryz.prog 117 #[v2,v6] w0 fun e w=>e = .returned (.bool (r)) ∧ Ext [] w0 w:=by
 refine enter (vs:=[_,_]) func117 z ntmps117 z fun a k=>?_
 have m:=St.start w0
 obtain ⟨Ak,Aj,rfl,Ag,Ac⟩:=Ad
 unfold d_slices_ContainsFunc_impl_Carton_impl_Carton at h
 refine wr (pN 1 k z fun a k=>nn (wr (pN 2 k z fun a k=>oE h fun Ai Af h=>cE k m call222 z z z (c_slices_IndexFunc_impl_Carton_impl_Carton fu _ _ (Enc.rd_agr Ab (m.a00 (Enc.rd_lt Ab))) ⟨_,_,z,Ag,fun w Ae Ah r e=>Ac w Ae Ah r (m.ext.trans e (by simp))⟩ Af) fun Al e a k m=>pN 2 k z fun a k=>nn (wp_ret (fS h k m z z)))))
theorem c_impl_Check_1 (fu:Nat) {w0:World} (c1:Carton) {Aa:List Value} {F3:List Nat} (Ab:rd w0 F3 Aa c1) {r:Bool}
    (h:d_impl_Check_1 fu c1 = some r) :
    Calls Tryz.prog 118 #[.agg Aa.toArray] w0 fun e w=>e = .returned (.bool (r)) ∧ Ext [] w0 w:=by
 refine enter (vs:=[_]) func118 z ntmps118 z fun a k=>?_
 have m:=St.start w0
 obtain ⟨v5,_,rfl,rfl,Ad⟩:=Ab
 unfold d_impl_Check_1 at h
 refine wr (s_box (cs:=[I c1.fType,I c1.fGroup,v5]) m k z z z z z z fun b7 w9 a k m e Ac=>pN 1 k z fun a k=>nn (wr (sv k z (r_fa fa83_2 k z z) fun a k=>sv k z (r_ldb t163 m 0 Ac 2 k z z z z z) fun a k=>sv k z (r_len (α:=Int) Ad k underlying63 z z) fun a k=>pN 2 k z fun a k=>nn (wp_ret (fS h k m z z)))))
theorem c_impl_allUnits (fu:Nat) {w0:World} (x1:Plan) {Al:List Value} {F3:List Nat} (Ba:rd w0 F3 Al x1) {r:(List Int)}
    (h:d_impl_allUnits fu x1 = some r) :
    Calls Tryz.prog 119 #[.agg Al.toArray] w0 fun e w=>∃ (v0:Value) (G0:List Nat),e = .returned (v0) ∧ Ext [] w0 w ∧ ow w G0 [v0] r ∧ (∀ b ∈ G0,w0.heap.size ≤ b):=by
 refine enter (vs:=[_]) func119 z ntmps119 z fun a k=>?_
 have m:=St.start w0
 obtain ⟨v5,F6,v7,F8,rfl,rfl,Ab,Bk⟩:=Ba
 unfold d_impl_allUnits at h
 refine wr (s_box (cs:=[v5,v7]) m k z z z z z z fun Bm Bh a k m e Bd=>pN 1 k z fun a k=>nn (wr (s_bs (cs:=[]) (ps:=[]) te63 m k z z z z z z z (by decide) z (by exact (List.forall_mem_nil _)) fun Ak Am Bf a k m e Ar=>?_)))
 have Ay:=ow_bx Ar ([]:List Int) z z z
 refine pN 1 k z fun a k=>nn (wp_seq (wr (sv k z (r_fa fa58_0 k z z) fun a k=>sv k z (r_ldb t155 m 1 Bd 0 k z z z z z) fun a k=>sv k z (r_len (α:=Carton) Ab k underlying55 z z) fun a k=>pN 1 k z fun a k=>nn (wp_block (c_loop (fun n a w=>∃ (Ad:List Int) (Ae:Value) (Ac:List Nat) (Af:World) (Aa:Int),K 20 [(3,Ae),(8,v5),(9,I ((x1.fCartons.length:Int))),(10,I Aa)] a ∧ St [] w0 w [(Ac,Af)] ∧ ow Af Ac [Ae] Ad ∧ d_impl_allUnits_L1 fu x1 n Ad Aa = some r) ?_ ?_ fu _ _ ?_)))))
 · rintro a w ⟨_,_,_,_,_,_,_,_,h⟩
   exact nS h
 · rintro Bl a Bp ⟨Ad,Ae,Ac,Af,Aa,k,m,Aj,h⟩
   rw [d_impl_allUnits_L1_s] at h
   unfold d_impl_allUnits_L1_B at h
   refine wr (pN 1 k z fun a k=>nn (wp_seq (cI h k z (fun Bc h=>?_) fun Bc h=>?_)))
   · refine wp_skip (nm_then ?_)
     refine wp_seq (wp_block (wr (oE h fun Ah Ai h=>sv k z (r_ixa Ab Ai k ts55 z z z) fun a k=>?_)))
     obtain ⟨Bj,Bg,Bq,As,Au,Be⟩:=rd_get Ab (ix_some Ai).2.2
     obtain ⟨Az,_,rfl,rfl,Ag⟩:=As
     refine sv k z (r_ldA ta83 (Au.agr (m.a00 (Enc.rd_lt Ab)) Be) z k z z) fun a k=>s_alloc (cs:=[I 0,I 0,.slice none 0 0]) m k zeroValue83 z z z z z fun Bo Bn a k m e Av=>s_stb (cs':=[I Ah.fType,I Ah.fGroup,Az]) sizeOf83 m 0 Av 0 k z z z z z z z z z z (allc z (allc z (allc (rd_o Ag) alln))) fun Bi a k e m Bb=>nn (wp_region_lit (pN 1 k z fun a k=>sv k z (r_fa fa83_2 k z z) fun a k=>sv k z (r_ldb t163 m 0 Bb 2 k z z z z z) fun a k=>oE h fun Aw At h=>s_appF At te63 z m 1 Aj (News.rd (Enc.rd_agr Ag (m.a00 (Enc.rd_lt Ag)))) z z k z z z z z z z fun Ap Ax Ao a k e m Aq=>pN 1 k z fun a k=>wpList_nil (nm_block (nm_then ?_))))
     refine wp_region_lit (pN 2 k z fun a k=>nn ?_)
     exact ⟨Aw,Ap,Ax,Ao,w64 (Aa + 1),k.keep [3,8,9,10] z,m.sel [1] z (by decide),Aq,h⟩
   refine wp_exit (ex_then (ex_then (ex_same (nm_then ?_))))
   refine wr (pN 2 k z fun a k=>nn (wp_ret ?_))
   cases h
   exact finR1 k z (RV.tmp k z) ⟨_,Ac,z,m.ext,(Enc.ow_agr Aj (m.a 0 z)),(m.fresh 0 z)⟩
 exact ⟨([]:List Int),(.slice (some ⟨Ak,0,none⟩) 0 0),[Ak],Am,0,k.keep [3,8,9,10] z,m.sel [0] z (by decide),Ay,h⟩

end Go.Proofs.YtkkfmjpbiimkbaaGreat
