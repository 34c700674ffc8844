/- FnExactFeasible: the walks of functions that it reaches (ExactFeasibleBWs,part 1). Printed by gen.py. -/
import Derived.Test.YtkkfmjpbiimkbaaGreatExactFeasibleBT
set_option maxRecDepth 20000
set_option linter.unusedSimpArgs false
set_option linter.unusedVariables false
namespace Go.Proofs.YtkkfmjpbiimkbaaGreat
open Go Go.RowKit
open Enc (rd ow)
open Arg (argv)
open Ret (retv)
open Go.Proofs.Tryz


theorem c_spec_l1In (fu:Nat) {w0:World} (x1:Int) (Ab:Int) (Ac:Int)  {r:Bool}
    (h:d_spec_l1In fu x1 Ab Ac = some r) :
    Calls Tryz.prog 130 #[I x1,I Ab,I Ac] w0 fun e w=>e = .returned (.bool (r)) ∧ Ext [] w0 w:=by
 refine enter (vs:=[_,_,_]) func130 z ntmps130 z fun a k=>?_
 have m:=St.start w0
 unfold d_spec_l1In at h
 refine wr (pN 1 k z fun a k=>nn (wr (pN 4 k z fun a k=>bsplit (decide (x1 ≥ Ab)) (fun Aa=>?_) (fun Aa=>?_))))
 · have h:=bif_t Aa h
   refine rB k 10 z Aa fun k=>pN 5 k z fun a k=>nn (wp_ret (fS h k m z z))
 have h:=bif_f Aa h
 refine rB k 10 z Aa fun k=>pN 5 k z fun a k=>nn (wp_ret (fS h k m z z))
theorem c_spec_l2Side (fu:Nat) {w0:World} (x1:Int)  {r:Bool}
    (h:d_spec_l2Side fu x1 = some r) :
    Calls Tryz.prog 297 #[I x1] w0 fun e w=>e = .returned (.bool (r)) ∧ Ext [] w0 w:=by
 refine enter (vs:=[_]) func297 z ntmps297 z fun a k=>?_
 have m:=St.start w0
 unfold d_spec_l2Side at h
 refine wr (pN 1 k z fun a k=>nn (wr (pN 1 k z fun a k=>oE h fun x2 Aa h=>cE k m call130 z z z (c_spec_l1In fu _ _ _  Aa) fun w5 e a k m=>pN 1 k z fun a k=>nn (wp_ret (fS h k m z z)))))
theorem c_spec_PalletOk (fu:Nat) {w0:World} (x1:Pallet)  {r:Bool}
    (h:d_spec_PalletOk fu x1 = some r) :
    Calls Tryz.prog 258 #[.agg (Flat.e (x1)).toArray] w0 fun e w=>e = .returned (.bool (r)) ∧ Ext [] w0 w:=by
 refine enter (vs:=[_]) func258 z ntmps258 z fun a k=>?_
 have m:=St.start w0
 unfold d_spec_PalletOk at h
 refine wr (s_box (cs:=[I x1.fW,I x1.fD,I x1.fH,I x1.fGram]) m k z z z z z z fun b2 w4 a k m e Ad=>pN 1 k z fun a k=>nn (wr (sv k z (r_fa fa33_0 k z z) fun a k=>sv k z (r_ldb t13 m 0 Ad 0 k z z z z z) fun a k=>oE h fun x5 Ai h=>cE k m call297 z z z (c_spec_l2Side fu _  Ai) fun w9 e a k m=>pN 1 k z fun a k=>bsplit (x5) (fun Ab=>?_) (fun Ab=>?_))))
 · have h:=bif_t Ab h
   refine rB k 6 z Ab fun k=>sv k z (r_fa fa33_1 k z z) fun a k=>sv k z (r_ldb t13 m 0 Ad 1 k z z z z z) fun a k=>oE h fun Ah Af h=>cE k m call297 z z z (c_spec_l2Side fu _  Af) fun Am e a k m=>pN 2 k z fun a k=>bsplit (Ah) (fun Ac=>?_) (fun Ac=>?_)
   · have h:=bif_t Ac h
     refine rB k 11 z Ac fun k=>sv k z (r_fa fa33_2 k z z) fun a k=>sv k z (r_ldb t13 m 0 Ad 2 k z z z z z) fun a k=>oE h fun Ag Ae h=>cE k m call297 z z z (c_spec_l2Side fu _  Ae) fun Ao e a k m=>pN 2 k z fun a k=>bsplit (Ag) (fun Aa=>?_) (fun Aa=>?_)
     · have h:=bif_t Aa h
       refine rB k 16 z Aa fun k=>sv k z (r_fa fa33_3 k z z) fun a k=>sv k z (r_ldb t13 m 0 Ad 3 k z z z z z) fun a k=>oE h fun Ak Aj h=>cE k m call130 z z z (c_spec_l1In fu _ _ _  Aj) fun Al e a k m=>pN 2 k z fun a k=>nn (wp_ret (fS h k m z z))
     have h:=bif_f Aa h
     refine rB k 16 z Aa fun k=>pN 5 k z fun a k=>nn (wp_ret (fS h k m z z))
   have h:=bif_f Ac h
   refine rB k 11 z Ac fun k=>pN 10 k z fun a k=>nn (wp_ret (fS h k m z z))
 have h:=bif_f Ab h
 refine rB k 6 z Ab fun k=>pN 15 k z fun a k=>nn (wp_ret (fS h k m z z))
theorem c_spec_l2Id (fu:Nat) {w0:World} (x1:Int)  {r:Bool}
    (h:d_spec_l2Id fu x1 = some r) :
    Calls Tryz.prog 259 #[I x1] w0 fun e w=>e = .returned (.bool (r)) ∧ Ext [] w0 w:=by
 refine enter (vs:=[_]) func259 z ntmps259 z fun a k=>?_
 have m:=St.start w0
 unfold d_spec_l2Id at h
 refine wr (pN 1 k z fun a k=>nn (wr (pN 1 k z fun a k=>oE h fun x2 Aa h=>cE k m call130 z z z (c_spec_l1In fu _ _ _  Aa) fun w5 e a k m=>pN 1 k z fun a k=>nn (wp_ret (fS h k m z z)))))
theorem c_spec_TypeOk (fu:Nat) {w0:World} (x1:Typ)  {r:Bool}
    (h:d_spec_TypeOk fu x1 = some r) :
    Calls Tryz.prog 260 #[.agg (Flat.e (x1)).toArray] w0 fun e w=>e = .returned (.bool (r)) ∧ Ext [] w0 w:=by
 refine enter (vs:=[_]) func260 z ntmps260 z fun a k=>?_
 have m:=St.start w0
 unfold d_spec_TypeOk at h
 refine wr (s_box (cs:=[I x1.fId,I x1.fW,I x1.fH,I x1.fD,I x1.fTare,I x1.fGram,I x1.fCost]) m k z z z z z z fun b2 w4 a k m e Aa=>pN 1 k z fun a k=>nn (wr (sv k z (r_fa fa79_0 k z z) fun a k=>sv k z (r_ldb t13 m 0 Aa 0 k z z z z z) fun a k=>oE h fun x5 Ai h=>cE k m call259 z z z (c_spec_l2Id fu _  Ai) fun w9 e a k m=>pN 1 k z fun a k=>bsplit (x5) (fun Ac=>?_) (fun Ac=>?_))))
 · have h:=bif_t Ac h
   refine rB k 6 z Ac fun k=>sv k z (r_fa fa79_1 k z z) fun a k=>sv k z (r_ldb t13 m 0 Aa 1 k z z z z z) fun a k=>oE h fun Al Ah h=>cE k m call297 z z z (c_spec_l2Side fu _  Ah) fun Az e a k m=>pN 2 k z fun a k=>bsplit (Al) (fun Af=>?_) (fun Af=>?_)
   · have h:=bif_t Af h
     refine rB k 11 z Af fun k=>sv k z (r_fa fa79_2 k z z) fun a k=>sv k z (r_ldb t13 m 0 Aa 2 k z z z z z) fun a k=>oE h fun Ap Ak h=>cE k m call297 z z z (c_spec_l2Side fu _  Ak) fun Ax e a k m=>pN 2 k z fun a k=>bsplit (Ap) (fun Ab=>?_) (fun Ab=>?_)
     · have h:=bif_t Ab h
       refine rB k 16 z Ab fun k=>sv k z (r_fa fa79_3 k z z) fun a k=>sv k z (r_ldb t13 m 0 Aa 3 k z z z z z) fun a k=>oE h fun Am As h=>cE k m call297 z z z (c_spec_l2Side fu _  As) fun Av e a k m=>pN 2 k z fun a k=>bsplit (Am) (fun Ae=>?_) (fun Ae=>?_)
       · have h:=bif_t Ae h
         refine rB k 21 z Ae fun k=>sv k z (r_fa fa79_4 k z z) fun a k=>sv k z (r_ldb t13 m 0 Aa 4 k z z z z z) fun a k=>oE h fun Ar Aq h=>cE k m call130 z z z (c_spec_l1In fu _ _ _  Aq) fun Ay e a k m=>pN 2 k z fun a k=>bsplit (Ar) (fun Ad=>?_) (fun Ad=>?_)
         · have h:=bif_t Ad h
           refine rB k 26 z Ad fun k=>sv k z (r_fa fa79_5 k z z) fun a k=>sv k z (r_ldb t13 m 0 Aa 5 k z z z z z) fun a k=>oE h fun Ao Aj h=>cE k m call130 z z z (c_spec_l1In fu _ _ _  Aj) fun Aw e a k m=>pN 2 k z fun a k=>bsplit (Ao) (fun Ag=>?_) (fun Ag=>?_)
           · have h:=bif_t Ag h
             refine rB k 31 z Ag fun k=>sv k z (r_fa fa79_6 k z z) fun a k=>sv k z (r_ldb t13 m 0 Aa 6 k z z z z z) fun a k=>oE h fun Ba At h=>cE k m call130 z z z (c_spec_l1In fu _ _ _  At) fun Au e a k m=>pN 2 k z fun a k=>?_
             have k:=k.keep [2] z
             refine nn (wp_ret (fS h k m z z))
           have h:=bif_f Ag h
           refine rB k 31 z Ag fun k=>pN 5 k z fun a k=>?_
           have k:=k.keep [2] z
           refine nn (wp_ret (fS h k m z z))
         have h:=bif_f Ad h
         refine rB k 26 z Ad fun k=>pN 10 k z fun a k=>?_
         have k:=k.keep [2] z
         refine nn (wp_ret (fS h k m z z))
       have h:=bif_f Ae h
       refine rB k 21 z Ae fun k=>pN 15 k z fun a k=>?_
       have k:=k.keep [2] z
       refine nn (wp_ret (fS h k m z z))
     have h:=bif_f Ab h
     refine rB k 16 z Ab fun k=>pN 20 k z fun a k=>?_
     have k:=k.keep [2] z
     refine nn (wp_ret (fS h k m z z))
   have h:=bif_f Af h
   refine rB k 11 z Af fun k=>pN 25 k z fun a k=>?_
   have k:=k.keep [2] z
   refine nn (wp_ret (fS h k m z z))
 have h:=bif_f Ac h
 refine rB k 6 z Ac fun k=>pN 30 k z fun a k=>?_
 have k:=k.keep [2] z
 refine nn (wp_ret (fS h k m z z))
theorem c_spec_ItemOk (fu:Nat) {w0:World} (x1:Item)  {r:Bool}
    (h:d_spec_ItemOk fu x1 = some r) :
    Calls Tryz.prog 261 #[.agg (Flat.e (x1)).toArray] w0 fun e w=>e = .returned (.bool (r)) ∧ Ext [] w0 w:=by
 refine enter (vs:=[_]) func261 z ntmps261 z fun a k=>?_
 have m:=St.start w0
 unfold d_spec_ItemOk at h
 refine wr (s_box (cs:=[I x1.fId,I x1.fW,I x1.fH,I x1.fD,I x1.fGram,I x1.fClass,I x1.fCount]) m k z z z z z z fun b2 w4 a k m e Aa=>pN 1 k z fun a k=>nn (wr (sv k z (r_fa fa158_0 k z z) fun a k=>sv k z (r_ldb t13 m 0 Aa 0 k z z z z z) fun a k=>oE h fun x5 Ai h=>cE k m call259 z z z (c_spec_l2Id fu _  Ai) fun w9 e a k m=>pN 1 k z fun a k=>bsplit (x5) (fun Ac=>?_) (fun Ac=>?_))))
 · have h:=bif_t Ac h
   refine rB k 6 z Ac fun k=>sv k z (r_fa fa158_1 k z z) fun a k=>sv k z (r_ldb t13 m 0 Aa 1 k z z z z z) fun a k=>oE h fun Al Ah h=>cE k m call297 z z z (c_spec_l2Side fu _  Ah) fun Az e a k m=>pN 2 k z fun a k=>bsplit (Al) (fun Af=>?_) (fun Af=>?_)
   · have h:=bif_t Af h
     refine rB k 11 z Af fun k=>sv k z (r_fa fa158_2 k z z) fun a k=>sv k z (r_ldb t13 m 0 Aa 2 k z z z z z) fun a k=>oE h fun Ap Ak h=>cE k m call297 z z z (c_spec_l2Side fu _  Ak) fun Ax e a k m=>pN 2 k z fun a k=>bsplit (Ap) (fun Ab=>?_) (fun Ab=>?_)
     · have h:=bif_t Ab h
       refine rB k 16 z Ab fun k=>sv k z (r_fa fa158_3 k z z) fun a k=>sv k z (r_ldb t13 m 0 Aa 3 k z z z z z) fun a k=>oE h fun Am As h=>cE k m call297 z z z (c_spec_l2Side fu _  As) fun Av e a k m=>pN 2 k z fun a k=>bsplit (Am) (fun Ae=>?_) (fun Ae=>?_)
       · have h:=bif_t Ae h
         refine rB k 21 z Ae fun k=>sv k z (r_fa fa158_4 k z z) fun a k=>sv k z (r_ldb t13 m 0 Aa 4 k z z z z z) fun a k=>oE h fun Ar Aq h=>cE k m call130 z z z (c_spec_l1In fu _ _ _  Aq) fun Ay e a k m=>pN 2 k z fun a k=>bsplit (Ar) (fun Ad=>?_) (fun Ad=>?_)
         · have h:=bif_t Ad h
           refine rB k 26 z Ad fun k=>sv k z (r_fa fa158_5 k z z) fun a k=>sv k z (r_ldb t13 m 0 Aa 5 k z z z z z) fun a k=>oE h fun Ao Aj h=>cE k m call130 z z z (c_spec_l1In fu _ _ _  Aj) fun Aw e a k m=>pN 2 k z fun a k=>bsplit (Ao) (fun Ag=>?_) (fun Ag=>?_)
           · have h:=bif_t Ag h
             refine rB k 31 z Ag fun k=>sv k z (r_fa fa158_6 k z z) fun a k=>sv k z (r_ldb t13 m 0 Aa 6 k z z z z z) fun a k=>oE h fun Ba At h=>cE k m call130 z z z (c_spec_l1In fu _ _ _  At) fun Au e a k m=>pN 2 k z fun a k=>?_
             have k:=k.keep [2] z
             refine nn (wp_ret (fS h k m z z))
           have h:=bif_f Ag h
           refine rB k 31 z Ag fun k=>pN 5 k z fun a k=>?_
           have k:=k.keep [2] z
           refine nn (wp_ret (fS h k m z z))
         have h:=bif_f Ad h
         refine rB k 26 z Ad fun k=>pN 10 k z fun a k=>?_
         have k:=k.keep [2] z
         refine nn (wp_ret (fS h k m z z))
       have h:=bif_f Ae h
       refine rB k 21 z Ae fun k=>pN 15 k z fun a k=>?_
       have k:=k.keep [2] z
       refine nn (wp_ret (fS h k m z z))
     have h:=bif_f Ab h
     refine rB k 16 z Ab fun k=>pN 20 k z fun a k=>?_
     have k:=k.keep [2] z
     refine nn (wp_ret (fS h k m z z))
   have h:=bif_f Af h
   refine rB k 11 z Af fun k=>pN 25 k z fun a k=>?_
   have k:=k.keep [2] z
   refine nn (wp_ret (fS h k m z z))
 have h:=bif_f Ac h
 refine rB k 6 z Ac fun k=>pN 30 k z fun a k=>?_
 have k:=k.keep [2] z
 refine nn (wp_ret (fS h k m z z))
theorem c_spec_BoundsOk (fu:Nat) {w0:World} (r1:Request) {Av:List Value} {F3:List Nat} (Bf:rd w0 F3 Av r1) {r:Bool}
    (h:d_spec_BoundsOk fu r1 = some r) :
    Calls Tryz.prog 187 #[.agg Av.toArray] w0 fun e w=>e = .returned (.bool (r)) ∧ Ext [] w0 w:=by
 refine enter (vs:=[_]) func187 z ntmps187 z fun a k=>?_
 have m:=St.start w0
 obtain ⟨v5,F6,v7,F8,v9,Ce,rfl,rfl,Ac,Ai,Ad⟩:=Bf
 unfold d_spec_BoundsOk at h
 refine wr (s_box (cs:=[I r1.fWay,I r1.fPallet.fW,I r1.fPallet.fD,I r1.fPallet.fH,I r1.fPallet.fGram,I r1.fClasses,v5,v7,I r1.fMaster,v9]) m k z z z z z z fun Ab Ao a k m e Aa=>pN 1 k z fun a k=>nn (c_cut (fun a w=>K 111 [(1,.pointer (some (⟨Ab,0,none⟩:Addr)))] a ∧ St [] w0 w [([Ab],Ao)] ∧ d_spec_BoundsOk_J2 fu r1 = some r) ?_ ?_))
 · rintro a Bx ⟨k,m,h⟩
   unfold d_spec_BoundsOk_J2 at h
   refine wp_seq (wr (pN 1 k z fun a k=>nn (wp_block (c_loop (fun n a w=>∃ (Ae:Int),K 111 [(1,.pointer (some (⟨Ab,0,none⟩:Addr))),(3,I Ae)] a ∧ St [] w0 w [([Ab],Ao)] ∧ d_spec_BoundsOk_L3 fu r1 n Ae = some r) ?_ ?_ fu _ _ ?_))))
   · rintro a w ⟨_,_,_,h⟩
     exact nS h
   · rintro Be a Ck ⟨Ae,k,m,h⟩
     rw [d_spec_BoundsOk_L3_s] at h
     unfold d_spec_BoundsOk_L3_B at h
     refine wp_seq (wr (pN 1 k z fun a k=>sv k z (r_fa fa38_3 k z z) fun a k=>sv k z (r_ldb t134 m 0 Aa 6 k z z z z z) fun a k=>sv k z (r_len (α:=Pair) Ac k underlying34 z z) fun a k=>pN 1 k z fun a k=>nn (cI h k z (fun Bq h=>?_) fun Bq h=>?_)))
     · refine wp_skip (nm_then ?_)
       refine c_cut (fun a w=>K 111 [(1,.pointer (some (⟨Ab,0,none⟩:Addr))),(3,I Ae)] a ∧ St [] w0 w [([Ab],Ao)] ∧ d_spec_BoundsOk_J1 fu (d_spec_BoundsOk_L3 fu r1 Be) Ae = some r) ?_ ?_
       · rintro a Cb ⟨k,m,h⟩
         unfold d_spec_BoundsOk_J1 at h
         refine wp_region_lit (pN 3 k z fun a k=>nn ?_)
         exact ⟨w64 (Ae + 1),k.keep [1,3] z,m.sel [0] z (by decide),h⟩
       refine wp_block (wr (sv k z (r_fa fa38_3 k z z) fun a k=>sv k z (r_ldb t134 m 0 Aa 6 k z z z z z) fun a k=>pN 1 k z fun a k=>oE h fun Ca At h=>sv k z (r_ixa Ac At k ts34 z z z) fun a k=>sv k z (r_fa fa180_0 k z z) fun a k=>sv k z (r_lde1 Ac (m.a00 (Enc.rd_lt Ac)) At 0 t13 k z z z z) fun a k=>oE h fun Bm Bn h=>cE k m call130 z z z (c_spec_l1In fu _ _ _  Bn) fun Cj e a k m=>pN 2 k z fun a k=>bsplit (!Bm) (fun Al=>?_) (fun Al=>?_)))
       · have h:=bif_t Al h
         refine rB k 63 z Al fun k=>pN 9 k z fun a k=>nn (wp_cond_true (k.ev z) (wr (pN 1 k z fun a k=>nn (wp_ret (rt_block (rt_then (rt_then (rt_block (rt_then ?_)))))))))
         refine fS h k m z z
       have h:=bif_f Al h
       refine rB k 63 z Al fun k=>sv k z (r_fa fa38_3 k z z) fun a k=>sv k z (r_ldb t134 m 0 Aa 6 k z z z z z) fun a k=>pN 1 k z fun a k=>oE h fun Cp Co h=>sv k z (r_ixa Ac At k ts34 z z z) fun a k=>sv k z (r_fa fa180_1 k z z) fun a k=>sv k z (r_lde1 Ac (m.a00 (Enc.rd_lt Ac)) At 1 t13 k z z z z) fun a k=>oE h fun Ct Br h=>cE k m call130 z z z (c_spec_l1In fu _ _ _  Br) fun Cm e a k m=>pN 2 k z fun a k=>nn (cI h k z (fun Bd h=>?_) fun Bd h=>?_)
       · refine wr (pN 1 k z fun a k=>nn (wp_ret (rt_block (rt_then (rt_then (rt_block (rt_then ?_)))))))
         refine fS h k m z z
       refine wp_skip (nm_block (nm_then ?_))
       exact ⟨k.keep [1,3] z,m.sel [0] z (by decide),h⟩
     refine wp_exit (ex_then (ex_then (ex_same (nm_then ?_))))
     refine wp_seq (wr (pN 1 k z fun a k=>nn (wp_block (c_loop (fun n a w=>∃ (Aq:Int),K 111 [(1,.pointer (some (⟨Ab,0,none⟩:Addr))),(4,I Aq)] a ∧ St [] w0 w [([Ab],Ao)] ∧ d_spec_BoundsOk_L2 fu r1 n Aq = some r) ?_ ?_ fu _ _ ?_))))
     · rintro a w ⟨_,_,_,h⟩
       exact nS h
     · rintro Ci a Cc ⟨Aq,k,m,h⟩
       rw [d_spec_BoundsOk_L2_s] at h
       unfold d_spec_BoundsOk_L2_B at h
       refine wp_seq (wr (pN 1 k z fun a k=>sv k z (r_fa fa38_4 k z z) fun a k=>sv k z (r_ldb t135 m 0 Aa 7 k z z z z z) fun a k=>sv k z (r_len (α:=Typ) Ai k underlying35 z z) fun a k=>pN 1 k z fun a k=>nn (cI h k z (fun Ay h=>?_) fun Ay h=>?_)))
       · refine wp_skip (nm_then ?_)
         refine wp_seq (wp_block (wr (sv k z (r_fa fa38_4 k z z) fun a k=>sv k z (r_ldb t135 m 0 Aa 7 k z z z z z) fun a k=>pN 1 k z fun a k=>oE h fun Bu Aw h=>sv k z (r_ixa Ai Aw k ts35 z z z) fun a k=>sv k z (r_lde Ai (m.a00 (Enc.rd_lt Ai)) Aw ta79 k z z) fun a k=>oE h fun Cu Bg h=>cE k m call260 z z z (c_spec_TypeOk fu (Bu:Typ)  Bg) fun Cl e a k m=>pN 1 k z fun a k=>nn (cI h k z (fun Bt h=>?_) fun Bt h=>?_))))
         · refine wr (pN 1 k z fun a k=>nn (wp_ret (rt_block (rt_then (rt_then (rt_block (rt_then ?_)))))))
           refine fS h k m z z
         refine wp_skip (nm_block (nm_then ?_))
         refine wp_region_lit (pN 3 k z fun a k=>nn ?_)
         exact ⟨w64 (Aq + 1),k.keep [1,4] z,m.sel [0] z (by decide),h⟩
       refine wp_exit (ex_then (ex_then (ex_same (nm_then ?_))))
       refine wr (pN 1 k z fun a k=>nn (wp_seq (wr (pN 1 k z fun a k=>nn (wp_block (c_loop (fun n a w=>∃ (As:Int) (Ap:Int),K 111 [(1,.pointer (some (⟨Ab,0,none⟩:Addr))),(5,I As),(6,I Ap)] a ∧ St [] w0 w [([Ab],Ao)] ∧ d_spec_BoundsOk_L1 fu r1 n As Ap = some r) ?_ ?_ fu _ _ ?_))))))
       · rintro a w ⟨_,_,_,_,h⟩
         exact nS h
       · rintro Cn a By ⟨As,Ap,k,m,h⟩
         rw [d_spec_BoundsOk_L1_s] at h
         unfold d_spec_BoundsOk_L1_B at h
         refine wp_seq (wr (pN 1 k z fun a k=>sv k z (r_fa fa38_6 k z z) fun a k=>sv k z (r_ldb t136 m 0 Aa 9 k z z z z z) fun a k=>sv k z (r_len (α:=Item) Ad k underlying36 z z) fun a k=>pN 1 k z fun a k=>nn (cI h k z (fun Bi h=>?_) fun Bi h=>?_)))
         · refine wp_skip (nm_then ?_)
           refine wp_seq (wp_block (wp_seq (wr (sv k z (r_fa fa38_6 k z z) fun a k=>sv k z (r_ldb t136 m 0 Aa 9 k z z z z z) fun a k=>pN 1 k z fun a k=>oE h fun Au Ar h=>sv k z (r_ixa Ad Ar k ts36 z z z) fun a k=>sv k z (r_lde Ad (m.a00 (Enc.rd_lt Ad)) Ar ta158 k z z) fun a k=>oE h fun Cs Bl h=>cE k m call261 z z z (c_spec_ItemOk fu (Au:Item)  Bl) fun Bz e a k m=>pN 1 k z fun a k=>nn (cI h k z (fun Bo h=>?_) fun Bo h=>?_)))))
           · refine wr (pN 1 k z fun a k=>nn (wp_ret (rt_then (rt_block (rt_then (rt_then (rt_block (rt_then ?_))))))))
             refine fS h k m z z
           refine wp_skip (nm_then ?_)
           refine wp_region_lit (pN 1 k z fun a k=>sv k z (r_fa fa38_6 k z z) fun a k=>sv k z (r_ldb t136 m 0 Aa 9 k z z z z z) fun a k=>pN 1 k z fun a k=>oE h fun Bw Cg h=>sv k z (r_ixa Ad Ar k ts36 z z z) fun a k=>sv k z (r_fa fa158_6 k z z) fun a k=>sv k z (r_lde1 Ad (m.a00 (Enc.rd_lt Ad)) Ar 6 t13 k z z z z) fun a k=>pN 2 k z fun a k=>wpList_nil (nm_block (nm_then ?_)))
           refine wp_region_lit (pN 3 k z fun a k=>nn ?_)
           exact ⟨w64 (As + Au.fCount),w64 (Ap + 1),k.keep [1,5,6] z,m.sel [0] z (by decide),h⟩
         refine wp_exit (ex_then (ex_then (ex_same (nm_then ?_))))
         refine wr (pN 3 k z fun a k=>nn (wp_ret (fS h k m z z)))
       exact ⟨0,0,k.keep [1,5,6] z,m.sel [0] z (by decide),h⟩
     exact ⟨0,k.keep [1,4] z,m.sel [0] z (by decide),h⟩
   exact ⟨0,k.keep [1,3] z,m.sel [0] z (by decide),h⟩
 refine wr (sv k z (r_fa fa38_0 k z z) fun a k=>sv k z (r_ldb t13 m 0 Aa 0 k z z z z z) fun a k=>oE h fun Bb Az h=>cE k m call130 z z z (c_spec_l1In fu _ _ _  Az) fun Cr e a k m=>pN 2 k z fun a k=>bsplit (!Bb) (fun Ag=>?_) (fun Ag=>?_))
 · have h:=bif_t Ag h
   refine rB k 11 z Ag fun k=>pN 36 k z fun a k=>?_
   have k:=k.keep [1,47] z
   refine nn (wp_cond_true (k.ev z) (wr (pN 1 k z fun a k=>nn (wp_ret (rt_then ?_)))))
   refine fS h k m z z
 have h:=bif_f Ag h
 refine rB k 11 z Ag fun k=>sv k z (r_fa fa38_1 k z z) fun a k=>sv k z (r_ldB ta33 m 0 Aa 1 k z z z z z z) fun a k=>oE h fun Bs Bj h=>cE k m call258 z z z (c_spec_PalletOk fu (r1.fPallet:Pallet)  Bj) fun Cf e a k m=>pN 3 k z fun a k=>bsplit (!Bs) (fun Af=>?_) (fun Af=>?_)
 · have h:=bif_t Af h
   refine rB k 17 z Af fun k=>pN 30 k z fun a k=>?_
   have k:=k.keep [1,47] z
   refine nn (wp_cond_true (k.ev z) (wr (pN 1 k z fun a k=>nn (wp_ret (rt_then ?_)))))
   refine fS h k m z z
 have h:=bif_f Af h
 refine rB k 17 z Af fun k=>sv k z (r_fa fa38_2 k z z) fun a k=>sv k z (r_ldb t13 m 0 Aa 5 k z z z z z) fun a k=>oE h fun Bc Ba h=>cE k m call130 z z z (c_spec_l1In fu _ _ _  Ba) fun Ch e a k m=>pN 3 k z fun a k=>bsplit (!Bc) (fun Aj=>?_) (fun Aj=>?_)
 · have h:=bif_t Aj h
   refine rB k 23 z Aj fun k=>pN 24 k z fun a k=>?_
   have k:=k.keep [1,47] z
   refine nn (wp_cond_true (k.ev z) (wr (pN 1 k z fun a k=>nn (wp_ret (rt_then ?_)))))
   refine fS h k m z z
 have h:=bif_f Aj h
 refine rB k 23 z Aj fun k=>sv k z (r_fa fa38_3 k z z) fun a k=>sv k z (r_ldb t134 m 0 Aa 6 k z z z z z) fun a k=>sv k z (r_len (α:=Pair) Ac k underlying34 z z) fun a k=>pN 3 k z fun a k=>bsplit (decide (((r1.fPairs.length:Int)) > 16)) (fun Ak=>?_) (fun Ak=>?_)
 · have h:=bif_t Ak h
   refine rB k 29 z Ak fun k=>pN 18 k z fun a k=>?_
   have k:=k.keep [1,47] z
   refine nn (wp_cond_true (k.ev z) (wr (pN 1 k z fun a k=>nn (wp_ret (rt_then ?_)))))
   refine fS h k m z z
 have h:=bif_f Ak h
 refine rB k 29 z Ak fun k=>sv k z (r_fa fa38_4 k z z) fun a k=>sv k z (r_ldb t135 m 0 Aa 7 k z z z z z) fun a k=>sv k z (r_len (α:=Typ) Ai k underlying35 z z) fun a k=>oE h fun Bh Bp h=>cE k m call130 z z z (c_spec_l1In fu _ _ _  Bp) fun Cq e a k m=>pN 3 k z fun a k=>bsplit (!Bh) (fun Am=>?_) (fun Am=>?_)
 · have h:=bif_t Am h
   refine rB k 36 z Am fun k=>pN 11 k z fun a k=>?_
   have k:=k.keep [1,47] z
   refine nn (wp_cond_true (k.ev z) (wr (pN 1 k z fun a k=>nn (wp_ret (rt_then ?_)))))
   refine fS h k m z z
 have h:=bif_f Am h
 refine rB k 36 z Am fun k=>sv k z (r_fa fa38_5 k z z) fun a k=>sv k z (r_ldb t13 m 0 Aa 8 k z z z z z) fun a k=>oE h fun Bv Bk h=>cE k m call259 z z z (c_spec_l2Id fu _  Bk) fun Cd e a k m=>pN 3 k z fun a k=>bsplit (!Bv) (fun Ah=>?_) (fun Ah=>?_)
 · have h:=bif_t Ah h
   refine rB k 42 z Ah fun k=>pN 5 k z fun a k=>?_
   have k:=k.keep [1,47] z
   refine nn (wp_cond_true (k.ev z) (wr (pN 1 k z fun a k=>nn (wp_ret (rt_then ?_)))))
   refine fS h k m z z
 have h:=bif_f Ah h
 refine rB k 42 z Ah fun k=>sv k z (r_fa fa38_6 k z z) fun a k=>sv k z (r_ldb t136 m 0 Aa 9 k z z z z z) fun a k=>sv k z (r_len (α:=Item) Ad k underlying36 z z) fun a k=>pN 2 k z fun a k=>?_
 have k:=k.keep [1,47] z
 refine nn (cI h k z (fun Ax h=>?_) fun Ax h=>?_)
 · refine wr (pN 1 k z fun a k=>nn (wp_ret (rt_then ?_)))
   refine fS h k m z z
 refine wp_skip (nm_then ?_)
 exact ⟨k.keep [1] z,m.sel [0] z (by decide),h⟩
theorem c_spec_MasterOf (fu:Nat) {w0:World} (r1:Request) {Ah:List Value} {F3:List Nat} (Ap:rd w0 F3 Ah r1) {r:Typ × Bool}
    (h:d_spec_MasterOf fu r1 = some r) :
    Calls Tryz.prog 89 #[.agg Ah.toArray] w0 fun e w=>e = .returned (.tuple #[.agg (Flat.e r.1).toArray,.bool (r.2)]) ∧ Ext [] w0 w:=by
 refine enter (vs:=[_]) func89 z ntmps89 z fun a k=>?_
 have m:=St.start w0
 obtain ⟨v5,F6,v7,F8,v9,Ax,rfl,rfl,Av,Ab,Aw⟩:=Ap
 unfold d_spec_MasterOf at h
 refine wr (s_box (cs:=[I r1.fWay,I r1.fPallet.fW,I r1.fPallet.fD,I r1.fPallet.fH,I r1.fPallet.fGram,I r1.fClasses,v5,v7,I r1.fMaster,v9]) m k z z z z z z fun Ai Ar a k m e Ad=>s_alloc (cs:=[I 0,I 0,I 0,I 0,I 0,I 0,I 0]) m k zeroValue79 z z z z z fun Ag Am a k m e Af=>pN 1 k z fun a k=>nn (wp_seq (wr (pN 1 k z fun a k=>nn (wp_block (c_loop (fun n a w=>∃ (Ac:Int),K 27 [(1,.pointer (some (⟨Ai,0,none⟩:Addr))),(2,.pointer (some (⟨Ag,0,none⟩:Addr))),(4,I Ac)] a ∧ St [] w0 w [([Ai],Ar),([Ag],Am)] ∧ d_spec_MasterOf_L1 fu r1 n Ac = some r) ?_ ?_ fu _ _ ?_))))))
 · rintro a w ⟨_,_,_,h⟩
   exact nS h
 · rintro Ay a Az ⟨Ac,k,m,h⟩
   rw [d_spec_MasterOf_L1_s] at h
   unfold d_spec_MasterOf_L1_B at h
   refine wp_seq (wr (pN 1 k z fun a k=>sv k z (r_fa fa38_4 k z z) fun a k=>sv k z (r_ldb t135 m 0 Ad 7 k z z z z z) fun a k=>sv k z (r_len (α:=Typ) Ab k underlying35 z z) fun a k=>pN 1 k z fun a k=>nn (cI h k z (fun Aq h=>?_) fun Aq h=>?_)))
   · refine wp_skip (nm_then ?_)
     refine wp_seq (wp_block (wp_seq (d_go [] mixo m z fun Ao hMd=>?_)))
     have m:=hMd
     have s:=Ext.refl ([]:List Nat) Ao
     refine dN [2] 1 z k (by kernel_rfl) z s (fun _ _ _ _ _=>id) fun a k=>dt k 0 z (by kernel_rfl) z s (fun _ _ _=>id) (fun w s=>r_fa fa38_4 k z z) fun a k=>dt k 1 z (by kernel_rfl) z s (fun _ _ _=>id) (fun w s=>r_ld1 t135 (r:=[]) (Ad.at ((hMd.step s).a 0 z) 7 1 z z z) k z z) fun a k=>oE h fun Aa Ae h=>dt k 3 z (by kernel_rfl) z s (fun _ _ _=>id) (fun w s=>r_ixa Ab Ae k ts35 z z z) fun a k=>dt k 4 z (by kernel_rfl) z s (fun _ _ _=>id) (fun w s=>r_fa fa79_0 k z z) fun a k=>dt k 5 z (by kernel_rfl) z s (fun _ _ _=>id) (fun w s=>r_lde1 Ab ((hMd.step s).a00 (Enc.rd_lt Ab)) Ae 0 t13 k z z z z) fun a k=>dt k 6 z (by kernel_rfl) z s (fun _ _ _=>id) (fun w s=>r_fa fa38_5 k z z) fun a k=>?_
     refine dt k 7 z (by kernel_rfl) z s (fun _ _ _=>id) (fun w s=>r_ld1 t13 (r:=[]) (Ad.at ((hMd.step s).a 0 z) 8 1 z z z) k z z) fun a k=>dN [8] 1 z k (by kernel_rfl) z s (fun _ _ _ _ _=>id) fun a k=>d_done (by kernel_rfl) ((nm_then ?_))
     refine cI h k z (fun Aj h=>?_) fun Aj h=>?_
     · refine wr (sv k z (r_fa fa38_4 k z z) fun a k=>sv k z (r_ldb t135 m 0 Ad 7 k z z z z z) fun a k=>pN 1 k z fun a k=>oE h fun As Au h=>sv k z (r_ixa Ab Ae k ts35 z z z) fun a k=>sv k z (r_lde Ab (m.a00 (Enc.rd_lt Ab)) Ae ta79 k z z) fun a k=>s_stb (cs':=[I Aa.fId,I Aa.fW,I Aa.fH,I Aa.fD,I Aa.fTare,I Aa.fGram,I Aa.fCost]) sizeOf79 m 1 Af 0 k z z z z z z z z z z z fun At a k e m Al=>pN 1 k z fun a k=>nn (wp_ret (rt_block (rt_then (rt_then (rt_block (rt_then ?_)))))))
       cases h
       exact finR2 k z (RV.cA k z ta79 (Al.at (m.a 1 z) 0 7 z z z) z) (RV.tmp k z) ⟨z,m.ext⟩
     refine wp_skip (nm_block (nm_then ?_))
     refine wp_region_lit (pN 3 k z fun a k=>nn ?_)
     exact ⟨w64 (Ac + 1),k.keep [1,2,4] z,m.sel [0,1] z (by decide),h⟩
   refine wp_exit (ex_then (ex_then (ex_same (nm_then ?_))))
   refine wr (sv k z (r_build bt79 k (cs:=#[I 0,I 0,I 0,I 0,I 0,I 0,I 0]) (ps:=[]) z z (by kernel_rfl)) fun a k=>s_stb (cs':=[I 0,I 0,I 0,I 0,I 0,I 0,I 0]) sizeOf79 m 1 Af 0 k z z z z z z z z z z z fun Ba a k e m Ak=>pN 1 k z fun a k=>nn (wp_ret ?_))
   cases h
   exact finR2 k z (RV.cA k z ta79 (Ak.at (m.a 1 z) 0 7 z z z) z) (RV.tmp k z) ⟨z,m.ext⟩
 exact ⟨0,k.keep [1,2,4] z,m.sel [1,0] z (by decide),h⟩
theorem c_spec_l5Names (fu:Nat) {w0:World} (r1:Request) {As:List Value} {F3:List Nat} (Bd:rd w0 F3 As r1) {r:Bool}
    (h:d_spec_l5Names fu r1 = some r) :
    Calls Tryz.prog 188 #[.agg As.toArray] w0 fun e w=>e = .returned (.bool (r)) ∧ Ext [] w0 w:=by
 refine enter (vs:=[_]) func188 z ntmps188 z fun a k=>?_
 have m:=St.start w0
 obtain ⟨v5,F6,v7,F8,v9,Ca,rfl,rfl,Ad,Ae,Ab⟩:=Bd
 unfold d_spec_l5Names at h
 refine wr (s_box (cs:=[I r1.fWay,I r1.fPallet.fW,I r1.fPallet.fD,I r1.fPallet.fH,I r1.fPallet.fGram,I r1.fClasses,v5,v7,I r1.fMaster,v9]) m k z z z z z z fun Ac Aj a k m e Aa=>pN 1 k z fun a k=>nn (wp_seq (wr (pN 1 k z fun a k=>nn (wp_block (c_loop (fun n a w=>∃ (Ag:Int),K 102 [(1,.pointer (some (⟨Ac,0,none⟩:Addr))),(3,I Ag)] a ∧ St [] w0 w [([Ac],Aj)] ∧ d_spec_l5Names_L5 fu r1 n Ag = some r) ?_ ?_ fu _ _ ?_))))))
 · rintro a w ⟨_,_,_,h⟩
   exact nS h
 · rintro Bb a Bt ⟨Ag,k,m,h⟩
   rw [d_spec_l5Names_L5_s] at h
   unfold d_spec_l5Names_L5_B at h
   refine wp_seq (wr (pN 1 k z fun a k=>sv k z (r_fa fa38_4 k z z) fun a k=>sv k z (r_ldb t135 m 0 Aa 7 k z z z z z) fun a k=>sv k z (r_len (α:=Typ) Ae k underlying35 z z) fun a k=>pN 1 k z fun a k=>nn (cI h k z (fun Ay h=>?_) fun Ay h=>?_)))
   · refine wp_skip (nm_then ?_)
     refine wp_seq (wp_block (wr (pN 1 k z fun a k=>nn (wp_block (c_loop (fun n a w=>∃ (Am:Int),K 102 [(1,.pointer (some (⟨Ac,0,none⟩:Addr))),(3,I Ag),(4,I Am)] a ∧ St [] w0 w [([Ac],Aj)] ∧ d_spec_l5Names_L1 fu (d_spec_l5Names_L5 fu r1 Bb) r1 Ag n Am = some r) ?_ ?_ fu _ _ ?_)))))
     · rintro a w ⟨_,_,_,h⟩
       exact nS h
     · rintro Cg a Ce ⟨Am,k,m,h⟩
       rw [d_spec_l5Names_L1_s] at h
       unfold d_spec_l5Names_L1_B at h
       refine wp_seq (wr (pN 3 k z fun a k=>nn (cI h k z (fun Bl h=>?_) fun Bl h=>?_)))
       · refine wp_skip (nm_then ?_)
         refine wp_seq (wp_block (wp_seq (d_go [] mixo m z fun Bg hMd=>?_)))
         have m:=hMd
         have s:=Ext.refl ([]:List Nat) Bg
         refine dN [2,8] 2 z k (by kernel_rfl) z s (fun _ _ _ _ _=>id) fun a k=>dt k 0 z (by kernel_rfl) z s (fun _ _ _=>id) (fun w s=>r_fa fa38_4 k z z) fun a k=>dt k 1 z (by kernel_rfl) z s (fun _ _ _=>id) (fun w s=>r_ld1 t135 (r:=[]) (Aa.at ((hMd.step s).a 0 z) 7 1 z z z) k z z) fun a k=>oE h fun Cb At h=>dt k 3 z (by kernel_rfl) z s (fun _ _ _=>id) (fun w s=>r_ixa Ae At k ts35 z z z) fun a k=>dt k 4 z (by kernel_rfl) z s (fun _ _ _=>id) (fun w s=>r_fa fa79_0 k z z) fun a k=>dt k 5 z (by kernel_rfl) z s (fun _ _ _=>id) (fun w s=>r_lde1 Ae ((hMd.step s).a00 (Enc.rd_lt Ae)) At 0 t13 k z z z z) fun a k=>dt k 6 z (by kernel_rfl) z s (fun _ _ _=>id) (fun w s=>r_fa fa38_4 k z z) fun a k=>?_
         refine dt k 7 z (by kernel_rfl) z s (fun _ _ _=>id) (fun w s=>r_ld1 t135 (r:=[]) (Aa.at ((hMd.step s).a 0 z) 7 1 z z z) k z z) fun a k=>oE h fun Cc Au h=>dt k 9 z (by kernel_rfl) z s (fun _ _ _=>id) (fun w s=>r_ixa Ae Au k ts35 z z z) fun a k=>dt k 10 z (by kernel_rfl) z s (fun _ _ _=>id) (fun w s=>r_fa fa79_0 k z z) fun a k=>dt k 11 z (by kernel_rfl) z s (fun _ _ _=>id) (fun w s=>r_lde1 Ae ((hMd.step s).a00 (Enc.rd_lt Ae)) Au 0 t13 k z z z z) fun a k=>dN [12] 1 z k (by kernel_rfl) z s (fun _ _ _ _ _=>id) fun a k=>d_done (by kernel_rfl) ((nm_then ?_))
         refine cI h k z (fun Bo h=>?_) fun Bo h=>?_
         · refine wr (pN 1 k z fun a k=>nn (wp_ret (rt_block (rt_then (rt_then (rt_block (rt_block (rt_then (rt_then (rt_block (rt_then ?_)))))))))))
           refine fS h k m z z
         refine wp_skip (nm_block (nm_then ?_))
         refine wp_region_lit (pN 3 k z fun a k=>nn ?_)
         exact ⟨w64 (Am + 1),k.keep [1,3,4] z,m.sel [0] z (by decide),h⟩
       refine wp_exit (ex_then (ex_then (ex_same (nm_block (nm_then ?_)))))
       refine wp_region_lit (pN 3 k z fun a k=>nn ?_)
       exact ⟨w64 (Ag + 1),k.keep [1,3] z,m.sel [0] z (by decide),h⟩
     exact ⟨0,k.keep [1,3,4] z,m.sel [0] z (by decide),h⟩
   refine wp_exit (ex_then (ex_then (ex_same (nm_then ?_))))
   refine wp_seq (wr (pN 1 k z fun a k=>nn (wp_block (c_loop (fun n a w=>∃ (Ai:Int),K 102 [(1,.pointer (some (⟨Ac,0,none⟩:Addr))),(5,I Ai)] a ∧ St [] w0 w [([Ac],Aj)] ∧ d_spec_l5Names_L4 fu r1 n Ai = some r) ?_ ?_ fu _ _ ?_))))
   · rintro a w ⟨_,_,_,h⟩
     exact nS h
   · rintro Bf a Bp ⟨Ai,k,m,h⟩
     rw [d_spec_l5Names_L4_s] at h
     unfold d_spec_l5Names_L4_B at h
     refine wp_seq (wr (pN 1 k z fun a k=>sv k z (r_fa fa38_6 k z z) fun a k=>sv k z (r_ldb t136 m 0 Aa 9 k z z z z z) fun a k=>sv k z (r_len (α:=Item) Ab k underlying36 z z) fun a k=>pN 1 k z fun a k=>nn (cI h k z (fun Bm h=>?_) fun Bm h=>?_)))
     · refine wp_skip (nm_then ?_)
       refine wp_seq (wp_block (wp_seq (wp_seq (d_go [] mixo m z fun Az hMd=>?_))))
       have m:=hMd
       have s:=Ext.refl ([]:List Nat) Az
       refine dN [2] 1 z k (by kernel_rfl) z s (fun _ _ _ _ _=>id) fun a k=>dt k 0 z (by kernel_rfl) z s (fun _ _ _=>id) (fun w s=>r_fa fa38_6 k z z) fun a k=>dt k 1 z (by kernel_rfl) z s (fun _ _ _=>id) (fun w s=>r_ld1 t136 (r:=[]) (Aa.at ((hMd.step s).a 0 z) 9 1 z z z) k z z) fun a k=>oE h fun Bw Ap h=>dt k 3 z (by kernel_rfl) z s (fun _ _ _=>id) (fun w s=>r_ixa Ab Ap k ts36 z z z) fun a k=>dt k 4 z (by kernel_rfl) z s (fun _ _ _=>id) (fun w s=>r_fa fa158_5 k z z) fun a k=>dt k 5 z (by kernel_rfl) z s (fun _ _ _=>id) (fun w s=>r_lde1 Ab ((hMd.step s).a00 (Enc.rd_lt Ab)) Ap 5 t13 k z z z z) fun a k=>dt k 6 z (by kernel_rfl) z s (fun _ _ _=>id) (fun w s=>r_fa fa38_2 k z z) fun a k=>?_
       refine dt k 7 z (by kernel_rfl) z s (fun _ _ _=>id) (fun w s=>r_ld1 t13 (r:=[]) (Aa.at ((hMd.step s).a 0 z) 5 1 z z z) k z z) fun a k=>dN [8] 1 z k (by kernel_rfl) z s (fun _ _ _ _ _=>id) fun a k=>d_done (by kernel_rfl) ((nm_then ?_))
       refine cI h k z (fun Bj h=>?_) fun Bj h=>?_
       · refine wr (pN 1 k z fun a k=>nn (wp_ret (rt_then (rt_block (rt_then (rt_then (rt_block (rt_then ?_))))))))
         refine fS h k m z z
       refine wp_skip (nm_then ?_)
       refine wr (pN 1 k z fun a k=>nn (wp_block (c_loop (fun n a w=>∃ (Ao:Int),K 102 [(1,.pointer (some (⟨Ac,0,none⟩:Addr))),(5,I Ai),(6,I Ao)] a ∧ St [] w0 w [([Ac],Aj)] ∧ d_spec_l5Names_L2 fu (d_spec_l5Names_L4 fu r1 Bf) r1 Ai n Ao = some r) ?_ ?_ fu _ _ ?_)))
       · rintro a w ⟨_,_,_,h⟩
         exact nS h
       · rintro Ch a Bs ⟨Ao,k,m,h⟩
         rw [d_spec_l5Names_L2_s] at h
         unfold d_spec_l5Names_L2_B at h
         refine wp_seq (wr (pN 3 k z fun a k=>nn (cI h k z (fun Av h=>?_) fun Av h=>?_)))
         · refine wp_skip (nm_then ?_)
           refine wp_seq (wp_block (wp_seq (d_go [] mixo m z fun Ba hMd=>?_)))
           have m:=hMd
           have s:=Ext.refl ([]:List Nat) Ba
           refine dN [2,8] 2 z k (by kernel_rfl) z s (fun _ _ _ _ _=>id) fun a k=>dt k 0 z (by kernel_rfl) z s (fun _ _ _=>id) (fun w s=>r_fa fa38_6 k z z) fun a k=>dt k 1 z (by kernel_rfl) z s (fun _ _ _=>id) (fun w s=>r_ld1 t136 (r:=[]) (Aa.at ((hMd.step s).a 0 z) 9 1 z z z) k z z) fun a k=>oE h fun Bx Ar h=>dt k 3 z (by kernel_rfl) z s (fun _ _ _=>id) (fun w s=>r_ixa Ab Ar k ts36 z z z) fun a k=>dt k 4 z (by kernel_rfl) z s (fun _ _ _=>id) (fun w s=>r_fa fa158_0 k z z) fun a k=>dt k 5 z (by kernel_rfl) z s (fun _ _ _=>id) (fun w s=>r_lde1 Ab ((hMd.step s).a00 (Enc.rd_lt Ab)) Ar 0 t13 k z z z z) fun a k=>dt k 6 z (by kernel_rfl) z s (fun _ _ _=>id) (fun w s=>r_fa fa38_6 k z z) fun a k=>?_
           refine dt k 7 z (by kernel_rfl) z s (fun _ _ _=>id) (fun w s=>r_ld1 t136 (r:=[]) (Aa.at ((hMd.step s).a 0 z) 9 1 z z z) k z z) fun a k=>oE h fun Br Aq h=>dt k 9 z (by kernel_rfl) z s (fun _ _ _=>id) (fun w s=>r_ixa Ab Aq k ts36 z z z) fun a k=>dt k 10 z (by kernel_rfl) z s (fun _ _ _=>id) (fun w s=>r_fa fa158_0 k z z) fun a k=>dt k 11 z (by kernel_rfl) z s (fun _ _ _=>id) (fun w s=>r_lde1 Ab ((hMd.step s).a00 (Enc.rd_lt Ab)) Aq 0 t13 k z z z z) fun a k=>dN [12] 1 z k (by kernel_rfl) z s (fun _ _ _ _ _=>id) fun a k=>d_done (by kernel_rfl) ((nm_then ?_))
           refine cI h k z (fun Aw h=>?_) fun Aw h=>?_
           · refine wr (pN 1 k z fun a k=>nn (wp_ret (rt_block (rt_then (rt_then (rt_block (rt_block (rt_then (rt_then (rt_block (rt_then ?_)))))))))))
             refine fS h k m z z
           refine wp_skip (nm_block (nm_then ?_))
           refine wp_region_lit (pN 3 k z fun a k=>nn ?_)
           exact ⟨w64 (Ao + 1),k.keep [1,5,6] z,m.sel [0] z (by decide),h⟩
         refine wp_exit (ex_then (ex_then (ex_same (nm_block (nm_then ?_)))))
         refine wp_region_lit (pN 3 k z fun a k=>nn ?_)
         exact ⟨w64 (Ai + 1),k.keep [1,5] z,m.sel [0] z (by decide),h⟩
       exact ⟨0,k.keep [1,5,6] z,m.sel [0] z (by decide),h⟩
     refine wp_exit (ex_then (ex_then (ex_same (nm_then ?_))))
     refine wp_seq (wr (pN 1 k z fun a k=>nn (wp_block (c_loop (fun n a w=>∃ (Ah:Int),K 102 [(1,.pointer (some (⟨Ac,0,none⟩:Addr))),(7,I Ah)] a ∧ St [] w0 w [([Ac],Aj)] ∧ d_spec_l5Names_L3 fu r1 n Ah = some r) ?_ ?_ fu _ _ ?_))))
     · rintro a w ⟨_,_,_,h⟩
       exact nS h
     · rintro Ax a Bq ⟨Ah,k,m,h⟩
       rw [d_spec_l5Names_L3_s] at h
       unfold d_spec_l5Names_L3_B at h
       refine wp_seq (wr (pN 1 k z fun a k=>sv k z (r_fa fa38_3 k z z) fun a k=>sv k z (r_ldb t134 m 0 Aa 6 k z z z z z) fun a k=>sv k z (r_len (α:=Pair) Ad k underlying34 z z) fun a k=>pN 1 k z fun a k=>nn (cI h k z (fun Be h=>?_) fun Be h=>?_)))
       · refine wp_skip (nm_then ?_)
         refine c_cut (fun a w=>K 102 [(1,.pointer (some (⟨Ac,0,none⟩:Addr))),(7,I Ah)] a ∧ St [] w0 w [([Ac],Aj)] ∧ d_spec_l5Names_J1 fu (d_spec_l5Names_L3 fu r1 Ax) Ah = some r) ?_ ?_
         · rintro a Bu ⟨k,m,h⟩
           unfold d_spec_l5Names_J1 at h
           refine wp_region_lit (pN 3 k z fun a k=>nn ?_)
           exact ⟨w64 (Ah + 1),k.keep [1,7] z,m.sel [0] z (by decide),h⟩
         refine wp_block (wp_seq (d_go [] mixo m z fun Bi hMd=>?_))
         have m:=hMd
         have s:=Ext.refl ([]:List Nat) Bi
         refine dN [2] 1 z k (by kernel_rfl) z s (fun _ _ _ _ _=>id) fun a k=>dt k 0 z (by kernel_rfl) z s (fun _ _ _=>id) (fun w s=>r_fa fa38_3 k z z) fun a k=>dt k 1 z (by kernel_rfl) z s (fun _ _ _=>id) (fun w s=>r_ld1 t134 (r:=[]) (Aa.at ((hMd.step s).a 0 z) 6 1 z z z) k z z) fun a k=>oE h fun Bn Al h=>dt k 3 z (by kernel_rfl) z s (fun _ _ _=>id) (fun w s=>r_ixa Ad Al k ts34 z z z) fun a k=>dt k 4 z (by kernel_rfl) z s (fun _ _ _=>id) (fun w s=>r_fa fa180_0 k z z) fun a k=>dt k 5 z (by kernel_rfl) z s (fun _ _ _=>id) (fun w s=>r_lde1 Ad ((hMd.step s).a00 (Enc.rd_lt Ad)) Al 0 t13 k z z z z) fun a k=>dt k 6 z (by kernel_rfl) z s (fun _ _ _=>id) (fun w s=>r_fa fa38_2 k z z) fun a k=>?_
         refine dt k 7 z (by kernel_rfl) z s (fun _ _ _=>id) (fun w s=>r_ld1 t13 (r:=[]) (Aa.at ((hMd.step s).a 0 z) 5 1 z z z) k z z) fun a k=>dN [8,9] 2 z k (by kernel_rfl) z s (fun _ _ _ _ _=>id) fun a k=>bsplit (decide (Bn.fA ≥ r1.fClasses)) (fun Ak=>?_) (fun Ak=>?_)
         · have h:=bif_t Ak h
           refine rB k 85 z Ak fun k=>dN [10,11,12,13,14,15,16,17,18,19] 10 z k (by kernel_rfl) z s (fun _ _ _ _ _=>id) fun a k=>d_done (by kernel_rfl) ?_
           have k:=k.keep [1,7,95] z
           refine (nm_then ?_)
           refine wp_cond_true (k.ev z) (wr (pN 1 k z fun a k=>nn (wp_ret (rt_block (rt_then (rt_then (rt_block (rt_then ?_))))))))
           refine fS h k m z z
         have h:=bif_f Ak h
         refine rB k 85 z Ak fun k=>dN [12] 1 z k (by kernel_rfl) z s (fun _ _ _ _ _=>id) fun a k=>dt k 10 z (by kernel_rfl) z s (fun _ _ _=>id) (fun w s=>r_fa fa38_3 k z z) fun a k=>dt k 11 z (by kernel_rfl) z s (fun _ _ _=>id) (fun w s=>r_ld1 t134 (r:=[]) (Aa.at ((hMd.step s).a 0 z) 6 1 z z z) k z z) fun a k=>oE h fun Ci Cd h=>dt k 13 z (by kernel_rfl) z s (fun _ _ _=>id) (fun w s=>r_ixa Ad Al k ts34 z z z) fun a k=>dt k 14 z (by kernel_rfl) z s (fun _ _ _=>id) (fun w s=>r_fa fa180_1 k z z) fun a k=>dt k 15 z (by kernel_rfl) z s (fun _ _ _=>id) (fun w s=>r_lde1 Ad ((hMd.step s).a00 (Enc.rd_lt Ad)) Al 1 t13 k z z z z) fun a k=>dt k 16 z (by kernel_rfl) z s (fun _ _ _=>id) (fun w s=>r_fa fa38_2 k z z) fun a k=>?_
         refine dt k 17 z (by kernel_rfl) z s (fun _ _ _=>id) (fun w s=>r_ld1 t13 (r:=[]) (Aa.at ((hMd.step s).a 0 z) 5 1 z z z) k z z) fun a k=>dN [18,19] 2 z k (by kernel_rfl) z s (fun _ _ _ _ _=>id) fun a k=>d_done (by kernel_rfl) ?_
         have k:=k.keep [1,7,95] z
         refine (nm_then ?_)
         refine cI h k z (fun Bh h=>?_) fun Bh h=>?_
         · refine wr (pN 1 k z fun a k=>nn (wp_ret (rt_block (rt_then (rt_then (rt_block (rt_then ?_)))))))
           refine fS h k m z z
         refine wp_skip (nm_block (nm_then ?_))
         exact ⟨k.keep [1,7] z,m.sel [0] z (by decide),h⟩
       refine wp_exit (ex_then (ex_then (ex_same (nm_then ?_))))
       refine wr (sv k z (r_ldB ta38 m 0 Aa 0 k z z z z z z) fun a k=>oE h fun Af Bc h=>cE k m call89 z z z (c_spec_MasterOf fu _ (show rd _ _ [I r1.fWay,I r1.fPallet.fW,I r1.fPallet.fD,I r1.fPallet.fH,I r1.fPallet.fGram,I r1.fClasses,v5,v7,I r1.fMaster,v9] (r1:Request) from ⟨_,_,_,_,_,_,z,z,(Enc.rd_agr Ad (m.a00 (Enc.rd_lt Ad))),(Enc.rd_agr Ae (m.a00 (Enc.rd_lt Ae))),(Enc.rd_agr Ab (m.a00 (Enc.rd_lt Ab)))⟩) Bc) fun Cj e a k m=>pN 3 k z fun a k=>s_alloc (cs:=[I 0,I 0,I 0,I 0,I 0,I 0,I 0]) m k zeroValue79 z z z z z fun Cf Bz a k m e Bk=>?_)
       refine s_stb (cs':=[I Af.1.fId,I Af.1.fW,I Af.1.fH,I Af.1.fD,I Af.1.fTare,I Af.1.fGram,I Af.1.fCost]) sizeOf79 m 0 Bk 0 k z z z z z z z z z z z fun By a k e m Bv=>pN 1 k z fun a k=>nn (wr (pN 2 k z fun a k=>nn (wp_ret (fS h k m z z))))
     exact ⟨0,k.keep [1,7] z,m.sel [0] z (by decide),h⟩
   exact ⟨0,k.keep [1,5] z,m.sel [0] z (by decide),h⟩
 exact ⟨0,k.keep [1,3] z,m.sel [0] z (by decide),h⟩
theorem c_spec_Beside (fu:Nat) {w0:World} (Ad:List Pair) (a5:Int) (b6:Int) {v2:Value} {F3:List Nat} (Aa:rd w0 F3 [v2] Ad) {r:Bool}
    (h:d_spec_Beside fu Ad a5 b6 = some r) :
    Calls Tryz.prog 177 #[v2,I a5,I b6] w0 fun e w=>e = .returned (.bool (r)) ∧ Ext [] w0 w:=by
 refine enter (vs:=[_,_,_]) func177 z ntmps177 z fun a k=>?_
 have m:=St.start w0
 unfold d_spec_Beside at h
 refine wr (pN 1 k z fun a k=>nn (wp_seq (wr (pN 1 k z fun a k=>nn (wp_block (c_loop (fun n a w=>∃ (Ab:Int),K 30 [(0,v2),(1,I a5),(2,I b6),(7,I Ab)] a ∧ St [] w0 w [] ∧ d_spec_Beside_L1 fu Ad a5 b6 n Ab = some r) ?_ ?_ fu _ _ ?_))))))
 · rintro a w ⟨_,_,_,h⟩
   exact nS h
 · rintro Ai a Al ⟨Ab,k,m,h⟩
   rw [d_spec_Beside_L1_s] at h
   unfold d_spec_Beside_L1_B at h
   refine wp_seq (wr (pN 2 k z fun a k=>sv k z (r_len (α:=Pair) Aa k underlying34 z z) fun a k=>pN 1 k z fun a k=>nn (cI h k z (fun Af h=>?_) fun Af h=>?_)))
   · refine wp_skip (nm_then ?_)
     refine c_cut (fun a w=>K 30 [(0,v2),(1,I a5),(2,I b6),(7,I Ab)] a ∧ St [] w0 w [] ∧ d_spec_Beside_J1 fu (d_spec_Beside_L1 fu Ad a5 b6 Ai) Ab = some r) ?_ ?_
     · rintro a Aj ⟨k,m,h⟩
       unfold d_spec_Beside_J1 at h
       refine wp_region_lit (pN 3 k z fun a k=>nn ?_)
       exact ⟨w64 (Ab + 1),k.keep [0,1,2,7] z,m.sel [] z (by decide),h⟩
     refine wp_block (wr (pN 2 k z fun a k=>oE h fun Ag Ae h=>sv k z (r_ixa Aa Ae k ts34 z z z) fun a k=>sv k z (r_fa fa180_0 k z z) fun a k=>sv k z (r_lde1 Aa (m.a00 (Enc.rd_lt Aa)) Ae 0 t13 k z z z z) fun a k=>pN 3 k z fun a k=>bsplit (Ag.fA == a5) (fun Ac=>?_) (fun Ac=>?_)))
     · have h:=bif_t Ac h
       refine rB k 21 z Ac fun k=>pN 2 k z fun a k=>oE h fun Ak Am h=>sv k z (r_ixa Aa Ae k ts34 z z z) fun a k=>sv k z (r_fa fa180_1 k z z) fun a k=>sv k z (r_lde1 Aa (m.a00 (Enc.rd_lt Aa)) Ae 1 t13 k z z z z) fun a k=>pN 3 k z fun a k=>nn (cI h k z (fun Ah h=>?_) fun Ah h=>?_)
       · refine wr (pN 1 k z fun a k=>nn (wp_ret (rt_block (rt_then (rt_then (rt_block (rt_then ?_)))))))
         refine fS h k m z z
       refine wp_skip (nm_block (nm_then ?_))
       exact ⟨k.keep [0,1,2,7] z,m.sel [] z (by decide),h⟩
     have h:=bif_f Ac h
     refine rB k 21 z Ac fun k=>pN 8 k z fun a k=>nn (wp_cond_false (k.ev z) (wp_skip (nm_block (nm_then ?_))))
     exact ⟨k.keep [0,1,2,7] z,m.sel [] z (by decide),h⟩
   refine wp_exit (ex_then (ex_then (ex_same (nm_then ?_))))
   refine wr (pN 1 k z fun a k=>nn (wp_ret (fS h k m z z)))
 exact ⟨0,k.keep [0,1,2,7] z,m.sel [] z (by decide),h⟩
theorem c_spec_TableOk (fu:Nat) {w0:World} (Ae:List Pair) (Aa:Int) {v2:Value} {F3:List Nat} (Ab:rd w0 F3 [v2] Ae) {r:Bool}
    (h:d_spec_TableOk fu Ae Aa = some r) :
    Calls Tryz.prog 189 #[v2,I Aa] w0 fun e w=>e = .returned (.bool (r)) ∧ Ext [] w0 w:=by
 refine enter (vs:=[_,_]) func189 z ntmps189 z fun a k=>?_
 have m:=St.start w0
 unfold d_spec_TableOk at h
 refine wr (pN 1 k z fun a k=>nn (wp_seq (wr (pN 1 k z fun a k=>oE h fun x6 At h=>cE k m call130 z z z (c_spec_l1In fu _ _ _  At) fun w9 e a k m=>pN 1 k z fun a k=>nn (cI h k z (fun Ar h=>?_) fun Ar h=>?_)))))
 · refine wr (pN 1 k z fun a k=>nn (wp_ret (rt_then ?_)))
   refine fS h k m z z
 refine wp_skip (nm_then ?_)
 refine wp_seq (wr (pN 1 k z fun a k=>nn (wp_block (c_loop (fun n a w=>∃ (Ac:Int),K 41 [(0,v2),(1,I Aa),(5,I Ac)] a ∧ St [] w0 w [] ∧ d_spec_TableOk_L2 fu Ae Aa n Ac = some r) ?_ ?_ fu _ _ ?_))))
 · rintro a w ⟨_,_,_,h⟩
   exact nS h
 · rintro Ah a Bg ⟨Ac,k,m,h⟩
   rw [d_spec_TableOk_L2_s] at h
   unfold d_spec_TableOk_L2_B at h
   refine wp_seq (wr (pN 3 k z fun a k=>nn (cI h k z (fun Ai h=>?_) fun Ai h=>?_)))
   · refine wp_skip (nm_then ?_)
     refine wp_seq (wp_block (wr (pN 1 k z fun a k=>nn (wp_block (c_loop (fun n a w=>∃ (Ad:Int),K 41 [(0,v2),(1,I Aa),(5,I Ac),(6,I Ad)] a ∧ St [] w0 w [] ∧ d_spec_TableOk_L1 fu (d_spec_TableOk_L2 fu Ae Aa Ah) Ae Aa Ac n Ad = some r) ?_ ?_ fu _ _ ?_)))))
     · rintro a w ⟨_,_,_,h⟩
       exact nS h
     · rintro Ak a Bh ⟨Ad,k,m,h⟩
       rw [d_spec_TableOk_L1_s] at h
       unfold d_spec_TableOk_L1_B at h
       refine wp_seq (wr (pN 3 k z fun a k=>nn (cI h k z (fun Aq h=>?_) fun Aq h=>?_)))
       · refine wp_skip (nm_then ?_)
         refine c_cut (fun a w=>K 41 [(0,v2),(1,I Aa),(5,I Ac),(6,I Ad)] a ∧ St [] w0 w [] ∧ d_spec_TableOk_J1 fu (d_spec_TableOk_L1 fu (d_spec_TableOk_L2 fu Ae Aa Ah) Ae Aa Ac Ak) Ad = some r) ?_ ?_
         · rintro a Bf ⟨k,m,h⟩
           unfold d_spec_TableOk_J1 at h
           refine wp_region_lit (pN 3 k z fun a k=>nn ?_)
           exact ⟨w64 (Ad + 1),k.keep [0,1,5,6] z,m.sel [] z (by decide),h⟩
         refine wp_block (wr (pN 4 k z fun a k=>bsplit (Ac == Ad) (fun Af=>?_) (fun Af=>?_)))
         · have h:=bif_t Af h
           refine rB k 23 z Af fun k=>pN 3 k z fun a k=>oE h fun Ao Av h=>cE k m call177 z z z (c_spec_Beside fu _ _ _ (Enc.rd_agr Ab (m.a00 (Enc.rd_lt Ab))) Av) fun Ay e a k m=>pN 3 k z fun a k=>bsplit (!Ao) (fun Ag=>?_) (fun Ag=>?_)
           · have h:=bif_t Ag h
             refine rB k 30 z Ag fun k=>pN 10 k z fun a k=>nn (wp_cond_true (k.ev z) (wr (pN 1 k z fun a k=>?_)))
             have k:=k.keep [4] z
             refine nn (wp_ret (rt_block (rt_then (rt_then (rt_block (rt_block (rt_then (rt_then (rt_block (rt_then ?_))))))))))
             refine fS h k m z z
           have h:=bif_f Ag h
           refine rB k 30 z Ag fun k=>pN 3 k z fun a k=>oE h fun Bc As h=>cE k m call177 z z z (c_spec_Beside fu _ _ _ (Enc.rd_agr Ab (m.a00 (Enc.rd_lt Ab))) As) fun Ax e a k m=>pN 3 k z fun a k=>oE h fun Be Am h=>cE k m call177 z z z (c_spec_Beside fu _ _ _ (Enc.rd_agr Ab (m.a00 (Enc.rd_lt Ab))) Am) fun Az e a k m=>sv k z (r_neb k underlying4 z z z) fun a k=>pN 1 k z fun a k=>nn (cI h k z (fun Au h=>?_) fun Au h=>?_)
           · refine wr (pN 1 k z fun a k=>?_)
             have k:=k.keep [4] z
             refine nn (wp_ret (rt_block (rt_then (rt_then (rt_block (rt_block (rt_then (rt_then (rt_block (rt_then ?_))))))))))
             refine fS h k m z z
           refine wp_skip (nm_block (nm_then ?_))
           exact ⟨k.keep [0,1,5,6] z,m.sel [] z (by decide),h⟩
         have h:=bif_f Af h
         refine rB k 23 z Af fun k=>pN 10 k z fun a k=>oE h fun Bd Al h=>cE k m call177 z z z (c_spec_Beside fu _ _ _ (Enc.rd_agr Ab (m.a00 (Enc.rd_lt Ab))) Al) fun Ba e a k m=>pN 3 k z fun a k=>oE h fun Aw Aj h=>cE k m call177 z z z (c_spec_Beside fu _ _ _ (Enc.rd_agr Ab (m.a00 (Enc.rd_lt Ab))) Aj) fun Bb e a k m=>sv k z (r_neb k underlying4 z z z) fun a k=>pN 1 k z fun a k=>nn (cI h k z (fun Ap h=>?_) fun Ap h=>?_)
         · refine wr (pN 1 k z fun a k=>?_)
           have k:=k.keep [4] z
           refine nn (wp_ret (rt_block (rt_then (rt_then (rt_block (rt_block (rt_then (rt_then (rt_block (rt_then ?_))))))))))
           refine fS h k m z z
         refine wp_skip (nm_block (nm_then ?_))
         exact ⟨k.keep [0,1,5,6] z,m.sel [] z (by decide),h⟩
       refine wp_exit (ex_then (ex_then (ex_same (nm_block (nm_then ?_)))))
       refine wp_region_lit (pN 3 k z fun a k=>nn ?_)
       exact ⟨w64 (Ac + 1),k.keep [0,1,5] z,m.sel [] z (by decide),h⟩
     exact ⟨0,k.keep [0,1,5,6] z,m.sel [] z (by decide),h⟩
   refine wp_exit (ex_then (ex_then (ex_same (nm_then ?_))))
   refine wr (pN 1 k z fun a k=>nn (wp_ret (fS h k m z z)))
 exact ⟨0,k.keep [0,1,5] z,m.sel [] z (by decide),h⟩
theorem c_spec_l1Places (fu:Nat) {w0:World} (n1:Int)  {r:(List Int)}
    (h:d_spec_l1Places fu n1 = some r) :
    Calls Tryz.prog 176 #[I n1] w0 fun e w=>∃ (v0:Value) (G0:List Nat),e = .returned (v0) ∧ Ext [] w0 w ∧ ow w G0 [v0] r ∧ (∀ b ∈ G0,w0.heap.size ≤ b):=by
 refine enter (vs:=[_]) func176 z ntmps176 z fun a k=>?_
 have m:=St.start w0
 unfold d_spec_l1Places at h
 refine wr (pN 1 k z fun a k=>nn (wr (s_bs (cs:=[]) (ps:=[]) te63 m k z z z z z z z (by decide) z (by exact (List.forall_mem_nil _)) fun g2 w3 e5 a k m e Ai=>?_)))
 have Ar:=ow_bx Ai ([]:List Int) z z z
 refine pN 1 k z fun a k=>nn (wp_seq (wr (pN 1 k z fun a k=>nn (wp_block (c_loop (fun n a w=>∃ (Ac:List Int) (Ad:Value) (Ab:List Nat) (Ae:World) (Aa:Int),K 16 [(0,I n1),(3,Ad),(4,I Aa)] a ∧ St [] w0 w [(Ab,Ae)] ∧ ow Ae Ab [Ad] Ac ∧ d_spec_l1Places_L1 fu n1 n Ac Aa = some r) ?_ ?_ fu _ _ ?_)))))
 · rintro a w ⟨_,_,_,_,_,_,_,_,h⟩
   exact nS h
 · rintro Au a As ⟨Ac,Ad,Ab,Ae,Aa,k,m,Af,h⟩
   rw [d_spec_l1Places_L1_s] at h
   unfold d_spec_l1Places_L1_B at h
   refine wp_seq (wr (pN 3 k z fun a k=>nn (cI h k z (fun Am h=>?_) fun Am h=>?_)))
   · refine wp_skip (nm_then ?_)
     refine wp_seq (wp_block (wp_region_lit (pN 2 k z fun a k=>s_bs (cs:=[I Aa]) (ps:=[(0,.tmp 12)]) te63 m k z z z z z z z (by decide) z (by exact (List.forall_mem_cons.2 ⟨z,(List.forall_mem_nil _)⟩)) fun At Av Aw a k m e Al=>?_)))
     have Aj:=ow_bx Al ([Aa]:List Int) z z z
     refine oE h fun Aq Ag h=>s_appF Ag te63 z m 1 Af (News.rd (Enc.rd_agr (Enc.ow_rd Aj) (m.a 0 z))) z z k z z z z z z z fun Ap Ao Ak a k e m Ah=>pN 1 k z fun a k=>wpList_nil (nm_block (nm_then ?_))
     refine wp_region_lit (pN 3 k z fun a k=>nn ?_)
     exact ⟨Aq,Ap,Ao,Ak,w64 (Aa + 1),k.keep [0,3,4] z,m.sel [1] z (by decide),Ah,h⟩
   refine wp_exit (ex_then (ex_then (ex_same (nm_then ?_))))
   refine wr (pN 2 k z fun a k=>nn (wp_ret ?_))
   cases h
   exact finR1 k z (RV.tmp k z) ⟨_,Ab,z,m.ext,(Enc.ow_agr Af (m.a 0 z)),(m.fresh 0 z)⟩
 exact ⟨([]:List Int),(.slice (some ⟨g2,0,none⟩) 0 0),[g2],w3,0,k.keep [0,3,4] z,m.sel [0] z (by decide),Ar,h⟩
theorem c_spec_l1Merge_R (fu:Nat):∀ (nr:Nat) {w0:World} (Al:List Int) (Ba:List Int) (Ai:Bool) {v2:Value} {F3:List Nat} (Aa:rd w0 F3 [v2] Al) {v6:Value} {F7:List Nat} (Ak:rd w0 F7 [v6] Ba) {r:(List Int)} (h:d_spec_l1Merge_R fu nr Al Ba Ai = some r),Calls Tryz.prog 265 #[v2,v6,.bool (Ai)] w0 fun e w=>∃ (v0:Value) (G0:List Nat),e = .returned (v0) ∧ Ext [] w0 w ∧ ow w G0 [v0] r ∧ (∀ b ∈ G0,w0.heap.size ≤ b):=by
 intro nr
 induction nr with
 | zero =>
   intros
   rename_i h
   exact nS h
 | succ nr ih =>
 intro w0 Al Ba Ai v2 F3 Aa v6 F7 Ak r h
 refine enter (vs:=[_,_,_]) func265 z ntmps265 z fun a k=>?_
 have m:=St.start w0
 rw [d_spec_l1Merge_Rs] at h
 unfold d_spec_l1Merge_RB at h
 refine wr (pN 1 k z fun a k=>nn (wp_seq (wr (pN 1 k z fun a k=>sv k z (r_len (α:=Int) Ak k underlying63 z z) fun a k=>pN 1 k z fun a k=>nn (cI h k z (fun Cz h=>?_) fun Cz h=>?_)))))
 · refine wr (s_bs (cs:=[]) (ps:=[]) te63 m k z z z z z z z (by decide) z (by exact (List.forall_mem_nil _)) fun Fx Hg Hv a k m e Ev=>?_)
   have Dw:=ow_bx Ev ([]:List Int) z z z
   refine pN 1 k z fun a k=>oE h fun He Ep h=>s_appF Ep te63 z m 0 Dw (News.rd (Enc.rd_agr Ak (m.a00 (Enc.rd_lt Ak)))) z z k z z z z z z z fun Hh Ci Fn a k e m Ds=>pN 1 k z fun a k=>nn (wp_ret (rt_then ?_))
   cases h
   exact finR1 k z (RV.tmp k z) ⟨_,Ci,z,m.ext,(Enc.ow_agr Ds (m.a 0 z)),(m.fresh 0 z)⟩
 refine wp_skip (nm_then ?_)
 refine wr (pN 1 k z fun a k=>sv k z (r_len (α:=Int) Ak k underlying63 z z) fun a k=>pN 2 k z fun a k=>nn (wr (pN 3 k z fun a k=>oE h fun Gm Ed h=>s_slTo Ak Ed k ts63 z z z z z z fun Ho a k Bh=>pN 1 k z fun a k=>oE h fun Az Ct h=>s_call k call265 z z z z z (ih _ _ _ (Enc.rd_agr Aa (m.a00 (Enc.rd_lt Aa))) (Enc.rd_agr Bh (m.a00 (Enc.rd_lt Bh))) Ct) fun Hp Bn hR=>?_)))
 obtain ⟨Bg,Bd,rfl,e,Ab,Cf⟩:=hR
 refine ⟨_,z,fun a k=>?_⟩
 have m:=m.new e Bd (fun b hb=>⟨Cf b hb,Enc.rd_lt (Enc.ow_rd Ab) b hb⟩) (Enc.ow_nd Ab)
 refine pN 1 k z fun a k=>nn (wr (pN 3 k z fun a k=>oE h fun Gu Ek h=>s_slFrom Ak Ek k ts63 z z z z z z fun Hi a k Bl=>pN 1 k z fun a k=>oE h fun Bb Fc h=>s_call k call265 z z z z z (ih _ _ _ (Enc.rd_agr Aa (m.a00 (Enc.rd_lt Aa))) (Enc.rd_agr Bl (m.a00 (Enc.rd_lt Bl))) Fc) fun Gk Bk hR=>?_))
 obtain ⟨Bm,Be,rfl,e,Ac,Fb⟩:=hR
 refine ⟨_,z,fun a k=>?_⟩
 have m:=m.new e Be (fun b hb=>⟨Fb b hb,Enc.rd_lt (Enc.ow_rd Ac) b hb⟩) (Enc.ow_nd Ac)
 refine pN 1 k z fun a k=>nn (wr (s_bs (cs:=[]) (ps:=[]) te63 m k z z z z z z z (by decide) z (by exact (List.forall_mem_nil _)) fun Bq Em Gh a k m e Et=>?_))
 have Bw:=ow_bx Et ([]:List Int) z z z
 refine pN 1 k z fun a k=>nn (wr (pN 1 k z fun a k=>?_))
 have k:=k.keep [0,2,8,9,10,11] z
 refine nn (wr (pN 1 k z fun a k=>nn (wp_seq (wp_block (c_loop (fun n a w=>∃ (Ay:List Int) (Ax:Value) (Aq:List Nat) (Aw:World) (Ad:Int) (Ae:Int),K 132 [(0,v2),(2,.bool (Ai)),(8,Bg),(9,Bm),(10,Ax),(11,I Ad),(12,I Ae)] a ∧ St [] w0 w [(Bd,Bn),(Be,Bk),(Aq,Aw)] ∧ ow Aw Aq [Ax] Ay ∧ d_spec_l1Merge_L1 fu Al Ai Az Bb n Ay Ad Ae = some r) ?_ ?_ fu _ _ ?_)))))
 · rintro a w ⟨_,_,_,_,_,_,_,_,_,h⟩
   exact nS h
 · rintro Fe a Fv ⟨Ay,Ax,Aq,Aw,Ad,Ae,k,m,Ah,h⟩
   rw [d_spec_l1Merge_L1_s] at h
   unfold d_spec_l1Merge_L1_B at h
   refine c_cut (fun a w=>K 132 [(0,v2),(2,.bool (Ai)),(8,Bg),(9,Bm),(10,Ax),(11,I Ad),(12,I Ae)] a ∧ St [] w0 w [(Bd,Bn),(Be,Bk),(Aq,Aw)] ∧ d_spec_l1Merge_J1 fu (d_spec_l1Merge_L1 fu Al Ai Az Bb Fe) Al Ai Az Bb Ay Ad Ae = some r) ?_ ?_
   · rintro a Fp ⟨k,m,h⟩
     unfold d_spec_l1Merge_J1 at h
     refine wp_block (wp_block (wr (pN 2 k z fun a k=>sv k z (r_len (α:=Int) (Enc.ow_rd Ac) k underlying63 z z) fun a k=>pN 2 k z fun a k=>nn (cI h k z (fun Bt h=>?_) fun Bt h=>?_))))
     · refine wr (pN 3 k z fun a k=>oE h fun Bo Bj h=>sv k z (r_ixa (Enc.ow_rd Ab) Bj k ts63 z z z) fun a k=>sv k z (r_lde1 (Enc.ow_rd Ab) (m.a 0 z) Bj 0 t13 k z z z z) fun a k=>s_bs (cs:=[I Bo]) (ps:=[(0,.tmp 63)]) te63 m k z z z z z z z (by decide) z (by exact (List.forall_mem_cons.2 ⟨z,(List.forall_mem_nil _)⟩)) fun Gy Hj Hw a k m e Df=>?_)
       have Cp:=ow_bx Df ([Bo]:List Int) z z z
       refine oE h fun Cr Cj h=>s_appF Cj te63 z m 3 Ah (News.rd (Enc.rd_agr (Enc.ow_rd Cp) (m.a 0 z))) z z k z z z z z z z fun Dx Bv Fd a k e m Ca=>pN 1 k z fun a k=>nn (wp_region_lit (pN 3 k z fun a k=>wpList_nil (nm_block (nm_block (nm_then ?_)))))
       exact ⟨Cr,Dx,Bv,Fd,w64 (Ad + 1),Ae,k.keep [0,2,8,9,10,11,12] z,m.sel [1,2,3] z (by decide),Ca,h⟩
     refine wr (pN 2 k z fun a k=>sv k z (r_len (α:=Int) (Enc.ow_rd Ab) k underlying63 z z) fun a k=>pN 2 k z fun a k=>nn (cI h k z (fun Da h=>?_) fun Da h=>?_))
     · refine wr (pN 3 k z fun a k=>oE h fun Bi Bp h=>sv k z (r_ixa (Enc.ow_rd Ac) Bp k ts63 z z z) fun a k=>sv k z (r_lde1 (Enc.ow_rd Ac) (m.a 1 z) Bp 0 t13 k z z z z) fun a k=>s_bs (cs:=[I Bi]) (ps:=[(0,.tmp 77)]) te63 m k z z z z z z z (by decide) z (by exact (List.forall_mem_cons.2 ⟨z,(List.forall_mem_nil _)⟩)) fun Gf Fs Gz a k m e Ei=>?_)
       have Dz:=ow_bx Ei ([Bi]:List Int) z z z
       refine oE h fun Dp Dl h=>s_appF Dl te63 z m 3 Ah (News.rd (Enc.rd_agr (Enc.ow_rd Dz) (m.a 0 z))) z z k z z z z z z z fun Cl Eh Cx a k e m Ey=>pN 1 k z fun a k=>nn (wp_region_lit (pN 3 k z fun a k=>wpList_nil (nm_block (nm_block (nm_then ?_)))))
       exact ⟨Dp,Cl,Eh,Cx,Ad,w64 (Ae + 1),k.keep [0,2,8,9,10,11,12] z,m.sel [1,2,3] z (by decide),Ey,h⟩
     refine wp_seq (d_go [] mixo m z fun Fa hMd=>?_)
     have m:=hMd
     have s:=Ext.refl ([]:List Nat) Fa
     refine dN [0,1,2,7,8,9] 6 z k (by kernel_rfl) z s (fun _ _ _ _ _=>id) fun a k=>oE h fun Ao Ag h=>dt k 3 z (by kernel_rfl) z s (fun _ _ _=>id) (fun w s=>r_ixa (Enc.ow_rd Ac) Ag k ts63 z z z) fun a k=>dt k 4 z (by kernel_rfl) z s (fun _ _ _=>id) (fun w s=>r_lde1 (Enc.ow_rd Ac) ((hMd.step s).a 1 z) Ag 0 t13 k z z z z) fun a k=>oE h fun Bf Am h=>dt k 5 z (by kernel_rfl) z s (fun _ _ _=>id) (fun w s=>r_ixa Aa Am k ts63 z z z) fun a k=>dt k 6 z (by kernel_rfl) z s (fun _ _ _=>id) (fun w s=>r_lde1 Aa ((hMd.step s).a00 (Enc.rd_lt Aa)) Am 0 t13 k z z z z) fun a k=>oE h fun Aj Af h=>dt k 10 z (by kernel_rfl) z s (fun _ _ _=>id) (fun w s=>r_ixa (Enc.ow_rd Ab) Af k ts63 z z z) fun a k=>?_
     refine dt k 11 z (by kernel_rfl) z s (fun _ _ _=>id) (fun w s=>r_lde1 (Enc.ow_rd Ab) ((hMd.step s).a 0 z) Af 0 t13 k z z z z) fun a k=>oE h fun Bc Ap h=>dt k 12 z (by kernel_rfl) z s (fun _ _ _=>id) (fun w s=>r_ixa Aa Ap k ts63 z z z) fun a k=>dt k 13 z (by kernel_rfl) z s (fun _ _ _=>id) (fun w s=>r_lde1 Aa ((hMd.step s).a00 (Enc.rd_lt Aa)) Ap 0 t13 k z z z z) fun a k=>dN [14,15] 2 z k (by kernel_rfl) z s (fun _ _ _ _ _=>id) fun a k=>bsplit (decide (Bf < Bc)) (fun Au=>?_) (fun Au=>?_)
     · have h:=bif_t Au h
       refine rB k 98 z Au fun k=>dN [16,17,18,19] 4 z k (by kernel_rfl) z s (fun _ _ _ _ _=>id) fun a k=>bsplit (!Ai) (fun As=>?_) (fun As=>?_)
       · have h:=bif_t As h
         refine rB k 102 z As fun k=>dN [20,21,22,23,24,25,26,27,28,29,30,31,32,33,34,35,36,37,38,39] 20 z k (by kernel_rfl) z s (fun _ _ _ _ _=>id) fun a k=>d_done (by kernel_rfl) ?_
         have k:=k.keep [0,2,8,9,10,11,12,82] z
         refine (nm_then ?_)
         refine wp_cond_true (k.ev z) (wr (pN 3 k z fun a k=>oE h fun Hk Fi h=>sv k z (r_ixa (Enc.ow_rd Ac) Ag k ts63 z z z) fun a k=>sv k z (r_lde1 (Enc.ow_rd Ac) (m.a 1 z) Ag 0 t13 k z z z z) fun a k=>s_bs (cs:=[I Ao]) (ps:=[(0,.tmp 126)]) te63 m k z z z z z z z (by decide) z (by exact (List.forall_mem_cons.2 ⟨z,(List.forall_mem_nil _)⟩)) fun Gd Hz Gw a k m e Cq=>?_))
         have Bs:=ow_bx Cq ([Ao]:List Int) z z z
         refine oE h fun Ez Do h=>s_appF Do te63 z m 3 Ah (News.rd (Enc.rd_agr (Enc.ow_rd Bs) (m.a 0 z))) z z k z z z z z z z fun Ff Eu Dc a k e m Ea=>pN 1 k z fun a k=>nn (wp_region_lit (pN 3 k z fun a k=>wpList_nil (nm_block (nm_block (nm_then ?_)))))
         exact ⟨Ez,Ff,Eu,Dc,Ad,w64 (Ae + 1),k.keep [0,2,8,9,10,11,12] z,m.sel [1,2,3] z (by decide),Ea,h⟩
       have h:=bif_f As h
       refine rB k 102 z As fun k=>dN [20,21,22,27,28,29] 6 z k (by kernel_rfl) z s (fun _ _ _ _ _=>id) fun a k=>oE h fun Ic Fl h=>dt k 23 z (by kernel_rfl) z s (fun _ _ _=>id) (fun w s=>r_ixa (Enc.ow_rd Ac) Ag k ts63 z z z) fun a k=>dt k 24 z (by kernel_rfl) z s (fun _ _ _=>id) (fun w s=>r_lde1 (Enc.ow_rd Ac) ((hMd.step s).a 1 z) Ag 0 t13 k z z z z) fun a k=>oE h fun Ge Ib h=>dt k 25 z (by kernel_rfl) z s (fun _ _ _=>id) (fun w s=>r_ixa Aa Am k ts63 z z z) fun a k=>dt k 26 z (by kernel_rfl) z s (fun _ _ _=>id) (fun w s=>r_lde1 Aa ((hMd.step s).a00 (Enc.rd_lt Aa)) Am 0 t13 k z z z z) fun a k=>oE h fun Gv Fy h=>?_
       refine dt k 30 z (by kernel_rfl) z s (fun _ _ _=>id) (fun w s=>r_ixa (Enc.ow_rd Ab) Af k ts63 z z z) fun a k=>dt k 31 z (by kernel_rfl) z s (fun _ _ _=>id) (fun w s=>r_lde1 (Enc.ow_rd Ab) ((hMd.step s).a 0 z) Af 0 t13 k z z z z) fun a k=>oE h fun Hx Gp h=>dt k 32 z (by kernel_rfl) z s (fun _ _ _=>id) (fun w s=>r_ixa Aa Ap k ts63 z z z) fun a k=>dt k 33 z (by kernel_rfl) z s (fun _ _ _=>id) (fun w s=>r_lde1 Aa ((hMd.step s).a00 (Enc.rd_lt Aa)) Ap 0 t13 k z z z z) fun a k=>dN [34,35] 2 z k (by kernel_rfl) z s (fun _ _ _ _ _=>id) fun a k=>bsplit (decide (Bf > Bc)) (fun Av=>?_) (fun Av=>?_)
       · have h:=bif_t Av h
         refine rB k 118 z Av fun k=>dN [36,37,38,39] 4 z k (by kernel_rfl) z s (fun _ _ _ _ _=>id) fun a k=>d_done (by kernel_rfl) ?_
         have k:=k.keep [0,2,8,9,10,11,12,82] z
         refine (nm_then ?_)
         refine cI h k z (fun Cy h=>?_) fun Cy h=>?_
         · refine wr (pN 3 k z fun a k=>oE h fun Id Gj h=>sv k z (r_ixa (Enc.ow_rd Ac) Ag k ts63 z z z) fun a k=>sv k z (r_lde1 (Enc.ow_rd Ac) (m.a 1 z) Ag 0 t13 k z z z z) fun a k=>s_bs (cs:=[I Ao]) (ps:=[(0,.tmp 126)]) te63 m k z z z z z z z (by decide) z (by exact (List.forall_mem_cons.2 ⟨z,(List.forall_mem_nil _)⟩)) fun Hu Gl Gi a k m e Cc=>?_)
           have Ee:=ow_bx Cc ([Ao]:List Int) z z z
           refine oE h fun Dg Ec h=>s_appF Ec te63 z m 3 Ah (News.rd (Enc.rd_agr (Enc.ow_rd Ee) (m.a 0 z))) z z k z z z z z z z fun Eg Er Ej a k e m Dn=>pN 1 k z fun a k=>nn (wp_region_lit (pN 3 k z fun a k=>wpList_nil (nm_block (nm_block (nm_then ?_)))))
           exact ⟨Dg,Eg,Er,Ej,Ad,w64 (Ae + 1),k.keep [0,2,8,9,10,11,12] z,m.sel [1,2,3] z (by decide),Dn,h⟩
         refine wr (pN 3 k z fun a k=>oE h fun Fo Gr h=>sv k z (r_ixa (Enc.ow_rd Ab) Af k ts63 z z z) fun a k=>sv k z (r_lde1 (Enc.ow_rd Ab) (m.a 0 z) Af 0 t13 k z z z z) fun a k=>s_bs (cs:=[I Aj]) (ps:=[(0,.tmp 49)]) te63 m k z z z z z z z (by decide) z (by exact (List.forall_mem_cons.2 ⟨z,(List.forall_mem_nil _)⟩)) fun Hl Hf Hr a k m e Ch=>?_)
         have Dm:=ow_bx Ch ([Aj]:List Int) z z z
         refine oE h fun Dk Cv h=>s_appF Cv te63 z m 3 Ah (News.rd (Enc.rd_agr (Enc.ow_rd Dm) (m.a 0 z))) z z k z z z z z z z fun Dj Ce Du a k e m Es=>pN 1 k z fun a k=>nn (wp_region_lit (pN 3 k z fun a k=>wpList_nil (nm_block (nm_block (nm_then ?_)))))
         exact ⟨Dk,Dj,Ce,Du,w64 (Ad + 1),Ae,k.keep [0,2,8,9,10,11,12] z,m.sel [1,2,3] z (by decide),Es,h⟩
       have h:=bif_f Av h
       refine rB k 118 z Av fun k=>dN [36,37,38,39] 4 z k (by kernel_rfl) z s (fun _ _ _ _ _=>id) fun a k=>d_done (by kernel_rfl) ?_
       have k:=k.keep [0,2,8,9,10,11,12,82] z
       refine (nm_then ?_)
       refine wp_cond_false (k.ev z) (wr (pN 3 k z fun a k=>oE h fun Gb Ga h=>sv k z (r_ixa (Enc.ow_rd Ab) Af k ts63 z z z) fun a k=>sv k z (r_lde1 (Enc.ow_rd Ab) (m.a 0 z) Af 0 t13 k z z z z) fun a k=>s_bs (cs:=[I Aj]) (ps:=[(0,.tmp 49)]) te63 m k z z z z z z z (by decide) z (by exact (List.forall_mem_cons.2 ⟨z,(List.forall_mem_nil _)⟩)) fun Hd Gt Gn a k m e Ew=>?_))
       have By:=ow_bx Ew ([Aj]:List Int) z z z
       refine oE h fun Dv El h=>s_appF El te63 z m 3 Ah (News.rd (Enc.rd_agr (Enc.ow_rd By) (m.a 0 z))) z z k z z z z z z z fun Ex Cb Cu a k e m Db=>pN 1 k z fun a k=>nn (wp_region_lit (pN 3 k z fun a k=>wpList_nil (nm_block (nm_block (nm_then ?_)))))
       exact ⟨Dv,Ex,Cb,Cu,w64 (Ad + 1),Ae,k.keep [0,2,8,9,10,11,12] z,m.sel [1,2,3] z (by decide),Db,h⟩
     have h:=bif_f Au h
     refine rB k 98 z Au fun k=>dN [16,17,18,19,20,21,22,27,28,29] 10 z k (by kernel_rfl) z s (fun _ _ _ _ _=>id) fun a k=>oE h fun Ha Gq h=>dt k 23 z (by kernel_rfl) z s (fun _ _ _=>id) (fun w s=>r_ixa (Enc.ow_rd Ac) Ag k ts63 z z z) fun a k=>dt k 24 z (by kernel_rfl) z s (fun _ _ _=>id) (fun w s=>r_lde1 (Enc.ow_rd Ac) ((hMd.step s).a 1 z) Ag 0 t13 k z z z z) fun a k=>oE h fun Gg Fr h=>dt k 25 z (by kernel_rfl) z s (fun _ _ _=>id) (fun w s=>r_ixa Aa Am k ts63 z z z) fun a k=>dt k 26 z (by kernel_rfl) z s (fun _ _ _=>id) (fun w s=>r_lde1 Aa ((hMd.step s).a00 (Enc.rd_lt Aa)) Am 0 t13 k z z z z) fun a k=>oE h fun Fq Fz h=>?_
     refine dt k 30 z (by kernel_rfl) z s (fun _ _ _=>id) (fun w s=>r_ixa (Enc.ow_rd Ab) Af k ts63 z z z) fun a k=>dt k 31 z (by kernel_rfl) z s (fun _ _ _=>id) (fun w s=>r_lde1 (Enc.ow_rd Ab) ((hMd.step s).a 0 z) Af 0 t13 k z z z z) fun a k=>oE h fun Hb Gx h=>dt k 32 z (by kernel_rfl) z s (fun _ _ _=>id) (fun w s=>r_ixa Aa Ap k ts63 z z z) fun a k=>dt k 33 z (by kernel_rfl) z s (fun _ _ _=>id) (fun w s=>r_lde1 Aa ((hMd.step s).a00 (Enc.rd_lt Aa)) Ap 0 t13 k z z z z) fun a k=>dN [34,35] 2 z k (by kernel_rfl) z s (fun _ _ _ _ _=>id) fun a k=>bsplit (decide (Bf > Bc)) (fun At=>?_) (fun At=>?_)
     · have h:=bif_t At h
       refine rB k 118 z At fun k=>dN [36,37,38,39] 4 z k (by kernel_rfl) z s (fun _ _ _ _ _=>id) fun a k=>d_done (by kernel_rfl) ?_
       have k:=k.keep [0,2,8,9,10,11,12,82] z
       refine (nm_then ?_)
       refine cI h k z (fun Dd h=>?_) fun Dd h=>?_
       · refine wr (pN 3 k z fun a k=>oE h fun Fj Hc h=>sv k z (r_ixa (Enc.ow_rd Ac) Ag k ts63 z z z) fun a k=>sv k z (r_lde1 (Enc.ow_rd Ac) (m.a 1 z) Ag 0 t13 k z z z z) fun a k=>s_bs (cs:=[I Ao]) (ps:=[(0,.tmp 126)]) te63 m k z z z z z z z (by decide) z (by exact (List.forall_mem_cons.2 ⟨z,(List.forall_mem_nil _)⟩)) fun Fk Gc Fw a k m e Bx=>?_)
         have Eo:=ow_bx Bx ([Ao]:List Int) z z z
         refine oE h fun Dq En h=>s_appF En te63 z m 3 Ah (News.rd (Enc.rd_agr (Enc.ow_rd Eo) (m.a 0 z))) z z k z z z z z z z fun Cg Cm Bz a k e m Ck=>pN 1 k z fun a k=>nn (wp_region_lit (pN 3 k z fun a k=>wpList_nil (nm_block (nm_block (nm_then ?_)))))
         exact ⟨Dq,Cg,Cm,Bz,Ad,w64 (Ae + 1),k.keep [0,2,8,9,10,11,12] z,m.sel [1,2,3] z (by decide),Ck,h⟩
       refine wr (pN 3 k z fun a k=>oE h fun Hn Ie h=>sv k z (r_ixa (Enc.ow_rd Ab) Af k ts63 z z z) fun a k=>sv k z (r_lde1 (Enc.ow_rd Ab) (m.a 0 z) Af 0 t13 k z z z z) fun a k=>s_bs (cs:=[I Aj]) (ps:=[(0,.tmp 49)]) te63 m k z z z z z z z (by decide) z (by exact (List.forall_mem_cons.2 ⟨z,(List.forall_mem_nil _)⟩)) fun Ia Fm Hm a k m e Co=>?_)
       have Bu:=ow_bx Co ([Aj]:List Int) z z z
       refine oE h fun Br Dr h=>s_appF Dr te63 z m 3 Ah (News.rd (Enc.rd_agr (Enc.ow_rd Bu) (m.a 0 z))) z z k z z z z z z z fun Dh Cw Fh a k e m Ef=>pN 1 k z fun a k=>nn (wp_region_lit (pN 3 k z fun a k=>wpList_nil (nm_block (nm_block (nm_then ?_)))))
       exact ⟨Br,Dh,Cw,Fh,w64 (Ad + 1),Ae,k.keep [0,2,8,9,10,11,12] z,m.sel [1,2,3] z (by decide),Ef,h⟩
     have h:=bif_f At h
     refine rB k 118 z At fun k=>dN [36,37,38,39] 4 z k (by kernel_rfl) z s (fun _ _ _ _ _=>id) fun a k=>d_done (by kernel_rfl) ?_
     have k:=k.keep [0,2,8,9,10,11,12,82] z
     refine (nm_then ?_)
     refine wp_cond_false (k.ev z) (wr (pN 3 k z fun a k=>oE h fun Hy Ft h=>sv k z (r_ixa (Enc.ow_rd Ab) Af k ts63 z z z) fun a k=>sv k z (r_lde1 (Enc.ow_rd Ab) (m.a 0 z) Af 0 t13 k z z z z) fun a k=>s_bs (cs:=[I Aj]) (ps:=[(0,.tmp 49)]) te63 m k z z z z z z z (by decide) z (by exact (List.forall_mem_cons.2 ⟨z,(List.forall_mem_nil _)⟩)) fun Fu Hq Ht a k m e Di=>?_))
     have Cs:=ow_bx Di ([Aj]:List Int) z z z
     refine oE h fun Fg Eb h=>s_appF Eb te63 z m 3 Ah (News.rd (Enc.rd_agr (Enc.ow_rd Cs) (m.a 0 z))) z z k z z z z z z z fun Cd Dy De a k e m Cn=>pN 1 k z fun a k=>nn (wp_region_lit (pN 3 k z fun a k=>wpList_nil (nm_block (nm_block (nm_then ?_)))))
     exact ⟨Fg,Cd,Dy,De,w64 (Ad + 1),Ae,k.keep [0,2,8,9,10,11,12] z,m.sel [1,2,3] z (by decide),Cn,h⟩
   refine wr (pN 2 k z fun a k=>sv k z (r_len (α:=Int) (Enc.ow_rd Ab) k underlying63 z z) fun a k=>pN 2 k z fun a k=>bsplit (decide (Ad < ((Az.length:Int)))) (fun Ar=>?_) (fun Ar=>?_))
   · have h:=bif_t Ar h
     refine rB k 39 z Ar fun k=>pN 5 k z fun a k=>nn (wp_cond_true (k.ev z) (wp_skip (nm_then ?_)))
     exact ⟨k.keep [0,2,8,9,10,11,12] z,m.sel [0,1,2] z (by decide),h⟩
   have h:=bif_f Ar h
   refine rB k 39 z Ar fun k=>pN 2 k z fun a k=>sv k z (r_len (α:=Int) (Enc.ow_rd Ac) k underlying63 z z) fun a k=>pN 2 k z fun a k=>nn (cI h k z (fun Dt h=>?_) fun Dt h=>?_)
   · refine wp_skip (nm_then ?_)
     exact ⟨k.keep [0,2,8,9,10,11,12] z,m.sel [0,1,2] z (by decide),h⟩
   refine wp_exit (ex_then (ex_then (ex_same (nm_then ?_))))
   refine wr (pN 2 k z fun a k=>nn (wp_ret ?_))
   cases h
   exact finR1 k z (RV.tmp k z) ⟨_,Aq,z,m.ext,(Enc.ow_agr Ah (m.a 2 z)),(m.fresh 2 z)⟩
 exact ⟨([]:List Int),(.slice (some ⟨Bq,0,none⟩) 0 0),[Bq],Em,0,0,k.keep [0,2,8,9,10,11,12] z,m.sel [2,1,0] z (by decide),Bw,h⟩
theorem c_spec_l1Merge (fu:Nat) {w0:World} (Ab:List Int) (Ac:List Int) (Aa:Bool) {v2:Value} {F3:List Nat} (Ae:rd w0 F3 [v2] Ab) {v6:Value} {F7:List Nat} (Ad:rd w0 F7 [v6] Ac) {r:(List Int)}
    (h:d_spec_l1Merge fu Ab Ac Aa = some r):Calls Tryz.prog 265 #[v2,v6,.bool (Aa)] w0 fun e w=>∃ (v0:Value) (G0:List Nat),e = .returned (v0) ∧ Ext [] w0 w ∧ ow w G0 [v0] r ∧ (∀ b ∈ G0,w0.heap.size ≤ b) :=
  c_spec_l1Merge_R fu fu Ab Ac Aa Ae Ad h

theorem c_spec_SortUp (fu:Nat) {w0:World} (Ae:List Int) {v2:Value} {F3:List Nat} (Ab:rd w0 F3 [v2] Ae) {r:(List Int)}
    (h:d_spec_SortUp fu Ae = some r) :
    Calls Tryz.prog 205 #[v2] w0 fun e w=>∃ (v0:Value) (G0:List Nat),e = .returned (v0) ∧ Ext [] w0 w ∧ ow w G0 [v0] r ∧ (∀ b ∈ G0,w0.heap.size ≤ b):=by
 refine enter (vs:=[_]) func205 z ntmps205 z fun a k=>?_
 have m:=St.start w0
 unfold d_spec_SortUp at h
 refine wr (pN 1 k z fun a k=>nn (wr (pN 2 k z fun a k=>sv k z (r_len (α:=Int) Ab k underlying63 z z) fun a k=>oE h fun x5 Ai h=>s_call k call176 z z z z z (c_spec_l1Places fu _  Ai) fun e7 w9 hR=>?_)))
 obtain ⟨Ap,Ag,rfl,e,Aa,Af⟩:=hR
 refine ⟨_,z,fun a k=>?_⟩
 have m:=m.new e Ag (fun b hb=>⟨Af b hb,Enc.rd_lt (Enc.ow_rd Aa) b hb⟩) (Enc.ow_nd Aa)
 refine oE h fun Ak Aj h=>s_call k call265 z z z z z (c_spec_l1Merge fu _ _ _ (Enc.rd_agr Ab (m.a00 (Enc.rd_lt Ab))) (Enc.rd_agr (Enc.ow_rd Aa) (m.a 0 z)) Aj) fun Ao Am hR=>?_
 obtain ⟨Al,Ad,rfl,e,Ac,Ah⟩:=hR
 refine ⟨_,z,fun a k=>?_⟩
 have m:=m.new e Ad (fun b hb=>⟨Ah b hb,Enc.rd_lt (Enc.ow_rd Ac) b hb⟩) (Enc.ow_nd Ac)
 refine pN 1 k z fun a k=>nn (wp_ret ?_)
 cases h
 exact finR1 k z (RV.tmp k z) ⟨_,Ad,z,m.ext,(Enc.ow_agr Ac (m.a 0 z)),(m.fresh 0 z)⟩
theorem c_spec_l5Sides (fu:Nat) {w0:World} (Ac:Int) (h2:Int) (d3:Int)  {r:(List Int)}
    (h:d_spec_l5Sides fu Ac h2 d3 = some r) :
    Calls Tryz.prog 262 #[I Ac,I h2,I d3] w0 fun e w=>∃ (v0:Value) (G0:List Nat),e = .returned (v0) ∧ Ext [] w0 w ∧ ow w G0 [v0] r ∧ (∀ b ∈ G0,w0.heap.size ≤ b):=by
 refine enter (vs:=[_,_,_]) func262 z ntmps262 z fun a k=>?_
 have m:=St.start w0
 unfold d_spec_l5Sides at h
 refine wr (pN 1 k z fun a k=>nn (wr (pN 3 k z fun a k=>s_bs (cs:=[I Ac,I h2,I d3]) (ps:=[(0,.tmp 9),(1,.tmp 10),(2,.tmp 11)]) te63 m k z z z z z z z (by decide) z (by exact (List.forall_mem_cons.2 ⟨z,(List.forall_mem_cons.2 ⟨z,(List.forall_mem_cons.2 ⟨z,(List.forall_mem_nil _)⟩)⟩)⟩)) fun g4 w5 e7 a k m e Am=>?_)))
 have Ab:=ow_bx Am ([Ac,h2,d3]:List Int) z z z
 refine pN 1 k z fun a k=>nn (wr (pN 1 k z fun a k=>oE h fun x9 As h=>s_call k call205 z z z z z (c_spec_SortUp fu _ (Enc.rd_agr (Enc.ow_rd Ab) (m.a 0 z)) As) fun Bb Bc hR=>?_))
 obtain ⟨Ba,Ar,rfl,e,Aa,Ao⟩:=hR
 refine ⟨_,z,fun a k=>?_⟩
 have m:=m.new e Ar (fun b hb=>⟨Ao b hb,Enc.rd_lt (Enc.ow_rd Aa) b hb⟩) (Enc.ow_nd Aa)
 refine pN 1 k z fun a k=>nn (wp_seq (d_go [] mixo m z fun Aq hMd=>?_))
 have m:=hMd
 have s:=Ext.refl ([]:List Nat) Aq
 refine dN [0,1,6,7,12,13] 6 z k (by kernel_rfl) z s (fun _ _ _ _ _=>id) fun a k=>oE h fun Az Ad h=>dt k 2 z (by kernel_rfl) z s (fun _ _ _=>id) (fun w s=>r_ixa (Enc.ow_rd Aa) Ad k ts63 z z z) fun a k=>dt k 3 z (by kernel_rfl) z s (fun _ _ _=>id) (fun w s=>r_lde1 (Enc.ow_rd Aa) ((hMd.step s).a 0 z) Ad 0 t13 k z z z z) fun a k=>oE h fun Aj Al h=>dt k 4 z (by kernel_rfl) z s (fun _ _ _=>id) (fun w s=>r_ixa (Enc.ow_rd Ab) Al k ts63 z z z) fun a k=>dt k 5 z (by kernel_rfl) z s (fun _ _ _=>id) (fun w s=>r_lde1 (Enc.ow_rd Ab) ((hMd.step s).a 1 z) Al 0 t13 k z z z z) fun a k=>oE h fun Be Ae h=>dt k 8 z (by kernel_rfl) z s (fun _ _ _=>id) (fun w s=>r_ixa (Enc.ow_rd Aa) Ae k ts63 z z z) fun a k=>?_
 refine dt k 9 z (by kernel_rfl) z s (fun _ _ _=>id) (fun w s=>r_lde1 (Enc.ow_rd Aa) ((hMd.step s).a 0 z) Ae 0 t13 k z z z z) fun a k=>oE h fun Ai Ak h=>dt k 10 z (by kernel_rfl) z s (fun _ _ _=>id) (fun w s=>r_ixa (Enc.ow_rd Ab) Ak k ts63 z z z) fun a k=>dt k 11 z (by kernel_rfl) z s (fun _ _ _=>id) (fun w s=>r_lde1 (Enc.ow_rd Ab) ((hMd.step s).a 1 z) Ak 0 t13 k z z z z) fun a k=>oE h fun Aw Ag h=>dt k 14 z (by kernel_rfl) z s (fun _ _ _=>id) (fun w s=>r_ixa (Enc.ow_rd Aa) Ag k ts63 z z z) fun a k=>dt k 15 z (by kernel_rfl) z s (fun _ _ _=>id) (fun w s=>r_lde1 (Enc.ow_rd Aa) ((hMd.step s).a 0 z) Ag 0 t13 k z z z z) fun a k=>oE h fun Af Ah h=>?_
 refine dt k 16 z (by kernel_rfl) z s (fun _ _ _=>id) (fun w s=>r_ixa (Enc.ow_rd Ab) Ah k ts63 z z z) fun a k=>dt k 17 z (by kernel_rfl) z s (fun _ _ _=>id) (fun w s=>r_lde1 (Enc.ow_rd Ab) ((hMd.step s).a 1 z) Ah 0 t13 k z z z z) fun a k=>d_one 18 (by kernel_rfl) z (s_bsN (cs:=[I Aj,I Ai,I Af]) (ps:=[(0,.tmp 20),(1,.tmp 26),(2,.tmp 32)]) te63 m k z z z z z z z (by decide) z (by exact (List.forall_mem_cons.2 ⟨z,(List.forall_mem_cons.2 ⟨z,(List.forall_mem_cons.2 ⟨z,(List.forall_mem_nil _)⟩)⟩)⟩)) fun Ap Ax Bd a k m e At Au=>?_)
 have Ay:=lo1 (Nat.le_trans s.size Au)
 have Av:=ow_bx At ([Aj,Ai,Af]:List Int) z z z
 have s:=s.trans e (by simp)
 refine wpList_nil ⟨s,?_⟩
 refine dN [19] 1 z k (by kernel_rfl) z s (fun _ _ _ _ _=>id) fun a k=>d_done (by kernel_rfl) ?_
 have k:=k.keep [6] z
 refine (nm_then ?_)
 refine wp_ret ?_
 cases h
 exact finR1 k z (RV.tmp k z) ⟨_,[Ap],z,m.ext,(Enc.ow_agr Av (m.a 0 z)),(m.fresh 0 z)⟩
theorem c_spec_Fits (fu:Nat) {w0:World} (x1:Item) (t2:Typ)  {r:Bool}
    (h:d_spec_Fits fu x1 t2 = some r) :
    Calls Tryz.prog 190 #[.agg (Flat.e (x1)).toArray,.agg (Flat.e (t2)).toArray] w0 fun e w=>e = .returned (.bool (r)) ∧ Ext [] w0 w:=by
 refine enter (vs:=[_,_]) func190 z ntmps190 z fun a k=>?_
 have m:=St.start w0
 unfold d_spec_Fits at h
 refine wr (s_box (cs:=[I x1.fId,I x1.fW,I x1.fH,I x1.fD,I x1.fGram,I x1.fClass,I x1.fCount]) m k z z z z z z fun b3 w5 a k m e Af=>s_box (cs:=[I t2.fId,I t2.fW,I t2.fH,I t2.fD,I t2.fTare,I t2.fGram,I t2.fCost]) m k z z z z z z fun b6 w9 a k m e Ag=>pN 1 k z fun a k=>nn (wr (sv k z (r_fa fa158_1 k z z) fun a k=>sv k z (r_ldb t13 m 1 Af 1 k z z z z z) fun a k=>sv k z (r_fa fa158_2 k z z) fun a k=>sv k z (r_ldb t13 m 1 Af 2 k z z z z z) fun a k=>sv k z (r_fa fa158_3 k z z) fun a k=>sv k z (r_ldb t13 m 1 Af 3 k z z z z z) fun a k=>oE h fun Bb Au h=>?_)))
 refine s_call k call262 z z z z z (c_spec_l5Sides fu _ _ _  Au) fun Bd Bc hR=>?_
 obtain ⟨Bh,Aq,rfl,e,Aa,Av⟩:=hR
 refine ⟨_,z,fun a k=>?_⟩
 have m:=m.new e Aq (fun b hb=>⟨Av b hb,Enc.rd_lt (Enc.ow_rd Aa) b hb⟩) (Enc.ow_nd Aa)
 refine pN 1 k z fun a k=>nn (wr (sv k z (r_fa fa79_1 k z z) fun a k=>sv k z (r_ldb t13 m 1 Ag 1 k z z z z z) fun a k=>sv k z (r_fa fa79_2 k z z) fun a k=>sv k z (r_ldb t13 m 1 Ag 2 k z z z z z) fun a k=>sv k z (r_fa fa79_3 k z z) fun a k=>sv k z (r_ldb t13 m 1 Ag 3 k z z z z z) fun a k=>oE h fun Be Ao h=>s_call k call262 z z z z z (c_spec_l5Sides fu _ _ _  Ao) fun Bf Bg hR=>?_))
 obtain ⟨Bi,Ay,rfl,e,Ab,Az⟩:=hR
 refine ⟨_,z,fun a k=>?_⟩
 have m:=m.new e Ay (fun b hb=>⟨Az b hb,Enc.rd_lt (Enc.ow_rd Ab) b hb⟩) (Enc.ow_nd Ab)
 refine pN 1 k z fun a k=>nn (wp_seq (d_go [] mixo m z fun Ar hMd=>?_))
 have m:=hMd
 have s:=Ext.refl ([]:List Nat) Ar
 refine dN [0,3] 2 z k (by kernel_rfl) z s (fun _ _ _ _ _=>id) fun a k=>oE h fun Ap Ak h=>dt k 1 z (by kernel_rfl) z s (fun _ _ _=>id) (fun w s=>r_ixa (Enc.ow_rd Aa) Ak k ts63 z z z) fun a k=>dt k 2 z (by kernel_rfl) z s (fun _ _ _=>id) (fun w s=>r_lde1 (Enc.ow_rd Aa) ((hMd.step s).a 1 z) Ak 0 t13 k z z z z) fun a k=>oE h fun Aw Aj h=>dt k 4 z (by kernel_rfl) z s (fun _ _ _=>id) (fun w s=>r_ixa (Enc.ow_rd Ab) Aj k ts63 z z z) fun a k=>dt k 5 z (by kernel_rfl) z s (fun _ _ _=>id) (fun w s=>r_lde1 (Enc.ow_rd Ab) ((hMd.step s).a 0 z) Aj 0 t13 k z z z z) fun a k=>dN [6,7] 2 z k (by kernel_rfl) z s (fun _ _ _ _ _=>id) fun a k=>bsplit (decide (Ap ≤ Aw)) (fun Ae=>?_) (fun Ae=>?_)
 · have h:=bif_t Ae h
   refine rB k 28 z Ae fun k=>dN [8,11] 2 z k (by kernel_rfl) z s (fun _ _ _ _ _=>id) fun a k=>oE h fun Ax Ai h=>dt k 9 z (by kernel_rfl) z s (fun _ _ _=>id) (fun w s=>r_ixa (Enc.ow_rd Aa) Ai k ts63 z z z) fun a k=>dt k 10 z (by kernel_rfl) z s (fun _ _ _=>id) (fun w s=>r_lde1 (Enc.ow_rd Aa) ((hMd.step s).a 1 z) Ai 0 t13 k z z z z) fun a k=>oE h fun Ba Am h=>dt k 12 z (by kernel_rfl) z s (fun _ _ _=>id) (fun w s=>r_ixa (Enc.ow_rd Ab) Am k ts63 z z z) fun a k=>dt k 13 z (by kernel_rfl) z s (fun _ _ _=>id) (fun w s=>r_lde1 (Enc.ow_rd Ab) ((hMd.step s).a 0 z) Am 0 t13 k z z z z) fun a k=>dN [14,15,16] 3 z k (by kernel_rfl) z s (fun _ _ _ _ _=>id) fun a k=>bsplit (decide (Ax ≤ Ba)) (fun Ad=>?_) (fun Ad=>?_)
   · have h:=bif_t Ad h
     refine rB k 37 z Ad fun k=>dN [17,20] 2 z k (by kernel_rfl) z s (fun _ _ _ _ _=>id) fun a k=>oE h fun As Ah h=>dt k 18 z (by kernel_rfl) z s (fun _ _ _=>id) (fun w s=>r_ixa (Enc.ow_rd Aa) Ah k ts63 z z z) fun a k=>dt k 19 z (by kernel_rfl) z s (fun _ _ _=>id) (fun w s=>r_lde1 (Enc.ow_rd Aa) ((hMd.step s).a 1 z) Ah 0 t13 k z z z z) fun a k=>oE h fun At Al h=>dt k 21 z (by kernel_rfl) z s (fun _ _ _=>id) (fun w s=>r_ixa (Enc.ow_rd Ab) Al k ts63 z z z) fun a k=>dt k 22 z (by kernel_rfl) z s (fun _ _ _=>id) (fun w s=>r_lde1 (Enc.ow_rd Ab) ((hMd.step s).a 0 z) Al 0 t13 k z z z z) fun a k=>dN [23,24,25] 3 z k (by kernel_rfl) z s (fun _ _ _ _ _=>id) fun a k=>bsplit (decide (As ≤ At)) (fun Ac=>?_) (fun Ac=>?_)
     · have h:=bif_t Ac h
       refine rB k 46 z Ac fun k=>dt k 26 z (by kernel_rfl) z s (fun _ _ _=>id) (fun w s=>r_fa fa158_4 k z z) fun a k=>dt k 27 z (by kernel_rfl) z s (fun _ _ _=>id) (fun w s=>r_ld1 t13 (r:=[]) (Af.at ((hMd.step s).a 3 z) 4 1 z z z) k z z) fun a k=>dt k 28 z (by kernel_rfl) z s (fun _ _ _=>id) (fun w s=>r_fa fa79_5 k z z) fun a k=>dt k 29 z (by kernel_rfl) z s (fun _ _ _=>id) (fun w s=>r_ld1 t13 (r:=[]) (Ag.at ((hMd.step s).a 2 z) 5 1 z z z) k z z) fun a k=>dN [30,31,32] 3 z k (by kernel_rfl) z s (fun _ _ _ _ _=>id) fun a k=>d_done (by kernel_rfl) ?_
       have k:=k.keep [4] z
       refine (nm_then ?_)
       refine wp_ret (fS h k m z z)
     have h:=bif_f Ac h
     refine rB k 46 z Ac fun k=>dN [26,27,28,29,30,31,32] 7 z k (by kernel_rfl) z s (fun _ _ _ _ _=>id) fun a k=>d_done (by kernel_rfl) ?_
     have k:=k.keep [4] z
     refine (nm_then ?_)
     refine wp_ret (fS h k m z z)
   have h:=bif_f Ad h
   refine rB k 37 z Ad fun k=>dN [17,18,19,20,21,22,23,24,25,26,27,28,29,30,31,32] 16 z k (by kernel_rfl) z s (fun _ _ _ _ _=>id) fun a k=>d_done (by kernel_rfl) ?_
   have k:=k.keep [4] z
   refine (nm_then ?_)
   refine wp_ret (fS h k m z z)
 have h:=bif_f Ae h
 refine rB k 28 z Ae fun k=>dN [8,9,10,11,12,13,14,15,16,17,18,19,20,21,22,23,24,25,26,27,28,29,30,31,32] 25 z k (by kernel_rfl) z s (fun _ _ _ _ _=>id) fun a k=>d_done (by kernel_rfl) ?_
 have k:=k.keep [4] z
 refine (nm_then ?_)
 refine wp_ret (fS h k m z z)
theorem c_spec_Class (fu:Nat) {w0:World} (r1:Request) {Ar:List Value} {F3:List Nat} (Bh:rd w0 F3 Ar r1) {r:Int}
    (h:d_spec_Class fu r1 = some r) :
    Calls Tryz.prog 74 #[.agg Ar.toArray] w0 fun e w=>e = .returned (I r) ∧ Ext [] w0 w:=by
 refine enter (vs:=[_]) func74 z ntmps74 z fun a k=>?_
 have m:=St.start w0
 obtain ⟨v5,F6,v7,F8,v9,Bu,rfl,rfl,Af,Ac,Ab⟩:=Bh
 unfold d_spec_Class at h
 refine wr (s_box (cs:=[I r1.fWay,I r1.fPallet.fW,I r1.fPallet.fD,I r1.fPallet.fH,I r1.fPallet.fGram,I r1.fClasses,v5,v7,I r1.fMaster,v9]) m k z z z z z z fun Ah Ao a k m e Aa=>pN 1 k z fun a k=>nn (wp_seq (wr (sv k z (r_ldB ta38 m 0 Aa 0 k z z z z z z) fun a k=>oE h fun Cb Be h=>?_))))
 refine cE k m call187 z z z (c_spec_BoundsOk fu _ (show rd _ _ [I r1.fWay,I r1.fPallet.fW,I r1.fPallet.fD,I r1.fPallet.fH,I r1.fPallet.fGram,I r1.fClasses,v5,v7,I r1.fMaster,v9] (r1:Request) from ⟨_,_,_,_,_,_,z,z,(Enc.rd_agr Af (m.a00 (Enc.rd_lt Af))),(Enc.rd_agr Ac (m.a00 (Enc.rd_lt Ac))),(Enc.rd_agr Ab (m.a00 (Enc.rd_lt Ab)))⟩) Be) fun Br e a k m=>pN 1 k z fun a k=>nn (cI h k z (fun Au h=>?_) fun Au h=>?_)
 · refine wr (pN 1 k z fun a k=>nn (wp_ret (rt_then ?_)))
   refine fS h k m z z
 refine wp_skip (nm_then ?_)
 refine wp_seq (wr (sv k z (r_ldB ta38 m 0 Aa 0 k z z z z z z) fun a k=>oE h fun By Bf h=>cE k m call188 z z z (c_spec_l5Names fu _ (show rd _ _ [I r1.fWay,I r1.fPallet.fW,I r1.fPallet.fD,I r1.fPallet.fH,I r1.fPallet.fGram,I r1.fClasses,v5,v7,I r1.fMaster,v9] (r1:Request) from ⟨_,_,_,_,_,_,z,z,(Enc.rd_agr Af (m.a00 (Enc.rd_lt Af))),(Enc.rd_agr Ac (m.a00 (Enc.rd_lt Ac))),(Enc.rd_agr Ab (m.a00 (Enc.rd_lt Ab)))⟩) Bf) fun Bv e a k m=>pN 1 k z fun a k=>nn (cI h k z (fun At h=>?_) fun At h=>?_)))
 · refine wr (pN 1 k z fun a k=>nn (wp_ret (rt_then ?_)))
   refine fS h k m z z
 refine wp_skip (nm_then ?_)
 refine wp_seq (wr (sv k z (r_fa fa38_3 k z z) fun a k=>sv k z (r_ldb t134 m 0 Aa 6 k z z z z z) fun a k=>sv k z (r_fa fa38_2 k z z) fun a k=>sv k z (r_ldb t13 m 0 Aa 5 k z z z z z) fun a k=>oE h fun Bn Az h=>cE k m call189 z z z (c_spec_TableOk fu _ _ (Enc.rd_agr Af (m.a00 (Enc.rd_lt Af))) Az) fun Bs e a k m=>pN 1 k z fun a k=>nn (cI h k z (fun Bb h=>?_) fun Bb h=>?_)))
 · refine wr (pN 1 k z fun a k=>nn (wp_ret (rt_then ?_)))
   refine fS h k m z z
 refine wp_skip (nm_then ?_)
 refine wr (sv k z (r_ldB ta38 m 0 Aa 0 k z z z z z z) fun a k=>oE h fun Ae Bm h=>cE k m call89 z z z (c_spec_MasterOf fu _ (show rd _ _ [I r1.fWay,I r1.fPallet.fW,I r1.fPallet.fD,I r1.fPallet.fH,I r1.fPallet.fGram,I r1.fClasses,v5,v7,I r1.fMaster,v9] (r1:Request) from ⟨_,_,_,_,_,_,z,z,(Enc.rd_agr Af (m.a00 (Enc.rd_lt Af))),(Enc.rd_agr Ac (m.a00 (Enc.rd_lt Ac))),(Enc.rd_agr Ab (m.a00 (Enc.rd_lt Ab)))⟩) Bm) fun Ca e a k m=>pN 3 k z fun a k=>s_alloc (cs:=[I 0,I 0,I 0,I 0,I 0,I 0,I 0]) m k zeroValue79 z z z z z fun As Ce a k m e Bd=>?_)
 refine s_stb (cs':=[I Ae.1.fId,I Ae.1.fW,I Ae.1.fH,I Ae.1.fD,I Ae.1.fTare,I Ae.1.fGram,I Ae.1.fCost]) sizeOf79 m 0 Bd 0 k z z z z z z z z z z z fun Aw a k e m Bj=>pN 1 k z fun a k=>nn (wp_seq (wr (pN 1 k z fun a k=>nn (wp_block (c_loop (fun n a w=>∃ (Am:Int),K 85 [(1,.pointer (some (⟨Ah,0,none⟩:Addr))),(3,.pointer (some (⟨As,0,none⟩:Addr))),(5,I Am)] a ∧ St [] w0 w [([Ah],Ao),([As],Aw)] ∧ d_spec_Class_L2 fu r1 Ae n Am = some r) ?_ ?_ fu _ _ ?_)))))
 · rintro a w ⟨_,_,_,h⟩
   exact nS h
 · rintro Bp a Cd ⟨Am,k,m,h⟩
   rw [d_spec_Class_L2_s] at h
   unfold d_spec_Class_L2_B at h
   refine wp_seq (wr (pN 1 k z fun a k=>sv k z (r_fa fa38_6 k z z) fun a k=>sv k z (r_ldb t136 m 0 Aa 9 k z z z z z) fun a k=>sv k z (r_len (α:=Item) Ab k underlying36 z z) fun a k=>pN 1 k z fun a k=>nn (cI h k z (fun Ay h=>?_) fun Ay h=>?_)))
   · refine wp_skip (nm_then ?_)
     refine wp_seq (wp_block (wp_seq (d_go [] mixo m z fun Bi hMd=>?_)))
     have m:=hMd
     have s:=Ext.refl ([]:List Nat) Bi
     refine dN [2] 1 z k (by kernel_rfl) z s (fun _ _ _ _ _=>id) fun a k=>dt k 0 z (by kernel_rfl) z s (fun _ _ _=>id) (fun w s=>r_fa fa38_6 k z z) fun a k=>dt k 1 z (by kernel_rfl) z s (fun _ _ _=>id) (fun w s=>r_ld1 t136 (r:=[]) (Aa.at ((hMd.step s).a 0 z) 9 1 z z z) k z z) fun a k=>oE h fun Ax Aq h=>dt k 3 z (by kernel_rfl) z s (fun _ _ _=>id) (fun w s=>r_ixa Ab Aq k ts36 z z z) fun a k=>dt k 4 z (by kernel_rfl) z s (fun _ _ _=>id) (fun w s=>r_lde Ab ((hMd.step s).a00 (Enc.rd_lt Ab)) Aq ta158 k z z) fun a k=>dt k 5 z (by kernel_rfl) z s (fun _ _ _=>id) (fun w s=>r_ldA ta79 (Bj.at ((hMd.step s).a 1 z) 0 7 z z z) z k z z) fun a k=>d_one 6 (by kernel_rfl) z (oE h fun Bo Av h=>?_)
     refine cE k m call190 z z z (c_spec_Fits fu (Ax:Item) (Ae.1:Typ)  Av) fun Bx e a k m=>?_
     have s:=s.trans e (by simp)
     refine wpList_nil ⟨s,?_⟩
     refine dN [7] 1 z k (by kernel_rfl) z s (fun _ _ _ _ _=>id) fun a k=>d_done (by kernel_rfl) ((nm_then ?_))
     refine cI h k z (fun Ba h=>?_) fun Ba h=>?_
     · refine wr (pN 1 k z fun a k=>nn (wp_ret (rt_block (rt_then (rt_then (rt_block (rt_then ?_)))))))
       refine fS h k m z z
     refine wp_skip (nm_block (nm_then ?_))
     refine wp_region_lit (pN 3 k z fun a k=>nn ?_)
     exact ⟨w64 (Am + 1),k.keep [1,3,5] z,m.sel [0,1] z (by decide),h⟩
   refine wp_exit (ex_then (ex_then (ex_same (nm_then ?_))))
   refine wp_seq (wr (pN 1 k z fun a k=>nn (wp_block (c_loop (fun n a w=>∃ (Ag:Int),K 85 [(1,.pointer (some (⟨Ah,0,none⟩:Addr))),(6,I Ag)] a ∧ St [] w0 w [([Ah],Ao)] ∧ d_spec_Class_L1 fu r1 n Ag = some r) ?_ ?_ fu _ _ ?_))))
   · rintro a w ⟨_,_,_,h⟩
     exact nS h
   · rintro Bk a Bq ⟨Ag,k,m,h⟩
     rw [d_spec_Class_L1_s] at h
     unfold d_spec_Class_L1_B at h
     refine wp_seq (wr (pN 1 k z fun a k=>sv k z (r_fa fa38_4 k z z) fun a k=>sv k z (r_ldb t135 m 0 Aa 7 k z z z z z) fun a k=>sv k z (r_len (α:=Typ) Ac k underlying35 z z) fun a k=>pN 1 k z fun a k=>nn (cI h k z (fun Bg h=>?_) fun Bg h=>?_)))
     · refine wp_skip (nm_then ?_)
       refine c_cut (fun a w=>K 85 [(1,.pointer (some (⟨Ah,0,none⟩:Addr))),(6,I Ag)] a ∧ St [] w0 w [([Ah],Ao)] ∧ d_spec_Class_J1 fu (d_spec_Class_L1 fu r1 Bk) Ag = some r) ?_ ?_
       · rintro a Bz ⟨k,m,h⟩
         unfold d_spec_Class_J1 at h
         refine wp_region_lit (pN 3 k z fun a k=>nn ?_)
         exact ⟨w64 (Ag + 1),k.keep [1,6] z,m.sel [0] z (by decide),h⟩
       refine wp_block (wr (sv k z (r_fa fa38_4 k z z) fun a k=>sv k z (r_ldb t135 m 0 Aa 7 k z z z z z) fun a k=>pN 1 k z fun a k=>oE h fun Ad Ap h=>sv k z (r_ixa Ac Ap k ts35 z z z) fun a k=>sv k z (r_lde Ac (m.a00 (Enc.rd_lt Ac)) Ap ta79 k z z) fun a k=>s_alloc (cs:=[I 0,I 0,I 0,I 0,I 0,I 0,I 0]) m k zeroValue79 z z z z z fun Cc Bw a k m e Bc=>s_stb (cs':=[I Ad.fId,I Ad.fW,I Ad.fH,I Ad.fD,I Ad.fTare,I Ad.fGram,I Ad.fCost]) sizeOf79 m 0 Bc 0 k z z z z z z z z z z z fun Bt a k e m Ak=>nn (wr (sv k z (r_fa fa79_1 k z z) fun a k=>?_))))
       refine sv k z (r_ldb t13 m 0 Ak 1 k z z z z z) fun a k=>sv k z (r_fa fa38_1 k z z) fun a k=>sv k z (r_fa fa33_0 k z z) fun a k=>sv k z (r_ldb t13 m 1 Aa 1 k z z z z z) fun a k=>pN 2 k z fun a k=>bsplit (decide (Ad.fW > r1.fPallet.fW)) (fun Al=>?_) (fun Al=>?_)
       · have h:=bif_t Al h
         refine rB k 58 z Al fun k=>pN 26 k z fun a k=>?_
         have k:=k.keep [1,6,84] z
         refine nn (wp_cond_true (k.ev z) (wr (pN 1 k z fun a k=>nn (wp_ret (rt_block (rt_then (rt_then (rt_block (rt_then ?_)))))))))
         refine fS h k m z z
       have h:=bif_f Al h
       refine rB k 58 z Al fun k=>sv k z (r_fa fa79_3 k z z) fun a k=>sv k z (r_ldb t13 m 0 Ak 3 k z z z z z) fun a k=>sv k z (r_fa fa38_1 k z z) fun a k=>sv k z (r_fa fa33_1 k z z) fun a k=>sv k z (r_ldb t13 m 1 Aa 2 k z z z z z) fun a k=>pN 3 k z fun a k=>bsplit (decide (Ad.fD > r1.fPallet.fD)) (fun Ai=>?_) (fun Ai=>?_)
       · have h:=bif_t Ai h
         refine rB k 66 z Ai fun k=>pN 18 k z fun a k=>?_
         have k:=k.keep [1,6,84] z
         refine nn (wp_cond_true (k.ev z) (wr (pN 1 k z fun a k=>nn (wp_ret (rt_block (rt_then (rt_then (rt_block (rt_then ?_)))))))))
         refine fS h k m z z
       have h:=bif_f Ai h
       refine rB k 66 z Ai fun k=>sv k z (r_fa fa79_2 k z z) fun a k=>sv k z (r_ldb t13 m 0 Ak 2 k z z z z z) fun a k=>sv k z (r_fa fa38_1 k z z) fun a k=>sv k z (r_fa fa33_2 k z z) fun a k=>sv k z (r_ldb t13 m 1 Aa 3 k z z z z z) fun a k=>pN 3 k z fun a k=>bsplit (decide (Ad.fH > r1.fPallet.fH)) (fun Aj=>?_) (fun Aj=>?_)
       · have h:=bif_t Aj h
         refine rB k 74 z Aj fun k=>pN 10 k z fun a k=>?_
         have k:=k.keep [1,6,84] z
         refine nn (wp_cond_true (k.ev z) (wr (pN 1 k z fun a k=>nn (wp_ret (rt_block (rt_then (rt_then (rt_block (rt_then ?_)))))))))
         refine fS h k m z z
       have h:=bif_f Aj h
       refine rB k 74 z Aj fun k=>sv k z (r_fa fa79_4 k z z) fun a k=>sv k z (r_ldb t13 m 0 Ak 4 k z z z z z) fun a k=>sv k z (r_fa fa79_5 k z z) fun a k=>sv k z (r_ldb t13 m 0 Ak 5 k z z z z z) fun a k=>pN 1 k z fun a k=>sv k z (r_fa fa38_1 k z z) fun a k=>sv k z (r_fa fa33_3 k z z) fun a k=>sv k z (r_ldb t13 m 1 Aa 4 k z z z z z) fun a k=>pN 2 k z fun a k=>?_
       have k:=k.keep [1,6,84] z
       refine nn (cI h k z (fun Bl h=>?_) fun Bl h=>?_)
       · refine wr (pN 1 k z fun a k=>nn (wp_ret (rt_block (rt_then (rt_then (rt_block (rt_then ?_)))))))
         refine fS h k m z z
       refine wp_skip (nm_block (nm_then ?_))
       exact ⟨k.keep [1,6] z,m.sel [1] z (by decide),h⟩
     refine wp_exit (ex_then (ex_then (ex_same (nm_then ?_))))
     refine wr (pN 1 k z fun a k=>nn (wp_ret (fS h k m z z)))
   exact ⟨0,k.keep [1,6] z,m.sel [0] z (by decide),h⟩
 exact ⟨0,k.keep [1,3,5] z,m.sel [1,0] z (by decide),h⟩

end Go.Proofs.YtkkfmjpbiimkbaaGreat
