/- FnExactFeasible: the walks of functions that it reaches (ExactFeasibleBWs,part 1). Printed by gen.py. -/
import Derived.Test.YtkkfmjpbiimkbaaGreatExactFeasibleBT
set_option maxRecDepth 20000
set_option linter.unusedSimpArgs false
set_option linter.unusedVariables false
namespace Go.Proofs.YtkkfmjpbiimkbaaGreat
open Go Go.RowKit
open Enc (rd ow)
open Arg (argv)
open Ret (retv)
open Go.Proofs.Tryz


theorem c_spec_l1In (fu:Nat) {w0:World} (x1:Int) (Ab:Int) (Ac:Int)  {r:Bool}
    (h:d_spec_l1In fu x1 Ab Ac = some r) :
    Calls Tryz.prog 130 #[I x1,I Ab,I Ac] w0 fun e w=>e = .returned (.bool (r)) ∧ Ext [] w0 w:=by
 refine enter (vs:=[_,_,_]) func130 z ntmps130 z fun a k=>?_
 have m:=St.start w0
 unfold d_spec_l1In at h
 refine wr (pN 1 k z fun a k=>nn (wr (pN 4 k z fun a k=>bsplit (decide (x1 ≥ Ab)) (fun Aa=>?_) (fun Aa=>?_))))
 · have h:=bif_t Aa h
   refine rB k 10 z Aa fun k=>pN 5 k z fun a k=>nn (wp_ret (fS h k m z z))
 have h:=bif_f Aa h
 refine rB k 10 z Aa fun k=>pN 5 k z fun a k=>nn (wp_ret (fS h k m z z))
theorem c_spec_l2Side (fu:Nat) {w0:World} (x1:Int)  {r:Bool}
    (h:d_spec_l2Side fu x1 = some r) :
    Calls Tryz.prog 297 #[I x1] w0 fun e w=>e = .returned (.bool (r)) ∧ Ext [] w0 w:=by
 refine enter (vs:=[_]) func297 z ntmps297 z fun a k=>?_
 have m:=St.start w0
 unfold d_spec_l2Side at h
 refine wr (pN 1 k z fun a k=>nn (wr (pN 1 k z fun a k=>oE h fun x2 Aa h=>cE k m call130 z z z (c_spec_l1In fu _ _ _  Aa) fun w5 e a k m=>pN 1 k z fun a k=>nn (wp_ret (fS h k m z z)))))
theorem c_spec_PalletOk (fu:Nat) {w0:World} (x1:Pallet)  {r:Bool}
    (h:d_spec_PalletOk fu x1 = some r) :
    Calls Tryz.prog 258 #[.agg (Flat.e (x1)).toArray] w0 fun e w=>e = .returned (.bool (r)) ∧ Ext [] w0 w:=by
 refine enter (vs:=[_]) func258 z ntmps258 z fun a k=>?_
 have m:=St.start w0
 unfold d_spec_PalletOk at h
 refine wr (s_box (cs:=[I x1.fW,I x1.fD,I x1.fH,I x1.fGram]) m k z z z z z z fun b2 w4 a k m e Ad=>pN 1 k z fun a k=>nn (wr (sv k z (r_fa fa33_0 k z z) fun a k=>sv k z (r_ldb t13 m 0 Ad 0 k z z z z z) fun a k=>oE h fun x5 Af h=>cE k m call297 z z z (c_spec_l2Side fu _  Af) fun w9 e a k m=>pN 1 k z fun a k=>bsplit (x5) (fun Aa=>?_) (fun Aa=>?_))))
 · have h:=bif_t Aa h
   refine rB k 6 z Aa fun k=>sv k z (r_fa fa33_1 k z z) fun a k=>sv k z (r_ldb t13 m 0 Ad 1 k z z z z z) fun a k=>oE h fun Ai Ag h=>cE k m call297 z z z (c_spec_l2Side fu _  Ag) fun Ao e a k m=>pN 2 k z fun a k=>bsplit (Ai) (fun Ab=>?_) (fun Ab=>?_)
   · have h:=bif_t Ab h
     refine rB k 11 z Ab fun k=>sv k z (r_fa fa33_2 k z z) fun a k=>sv k z (r_ldb t13 m 0 Ad 2 k z z z z z) fun a k=>oE h fun Aj Ah h=>cE k m call297 z z z (c_spec_l2Side fu _  Ah) fun Am e a k m=>pN 2 k z fun a k=>bsplit (Aj) (fun Ac=>?_) (fun Ac=>?_)
     · have h:=bif_t Ac h
       refine rB k 16 z Ac fun k=>sv k z (r_fa fa33_3 k z z) fun a k=>sv k z (r_ldb t13 m 0 Ad 3 k z z z z z) fun a k=>oE h fun Ak Ae h=>cE k m call130 z z z (c_spec_l1In fu _ _ _  Ae) fun Al e a k m=>pN 2 k z fun a k=>nn (wp_ret (fS h k m z z))
     have h:=bif_f Ac h
     refine rB k 16 z Ac fun k=>pN 5 k z fun a k=>nn (wp_ret (fS h k m z z))
   have h:=bif_f Ab h
   refine rB k 11 z Ab fun k=>pN 10 k z fun a k=>nn (wp_ret (fS h k m z z))
 have h:=bif_f Aa h
 refine rB k 6 z Aa fun k=>pN 15 k z fun a k=>nn (wp_ret (fS h k m z z))
theorem c_spec_l2Id (fu:Nat) {w0:World} (x1:Int)  {r:Bool}
    (h:d_spec_l2Id fu x1 = some r) :
    Calls Tryz.prog 259 #[I x1] w0 fun e w=>e = .returned (.bool (r)) ∧ Ext [] w0 w:=by
 refine enter (vs:=[_]) func259 z ntmps259 z fun a k=>?_
 have m:=St.start w0
 unfold d_spec_l2Id at h
 refine wr (pN 1 k z fun a k=>nn (wr (pN 1 k z fun a k=>oE h fun x2 Aa h=>cE k m call130 z z z (c_spec_l1In fu _ _ _  Aa) fun w5 e a k m=>pN 1 k z fun a k=>nn (wp_ret (fS h k m z z)))))
theorem c_spec_TypeOk (fu:Nat) {w0:World} (x1:Typ)  {r:Bool}
    (h:d_spec_TypeOk fu x1 = some r) :
    Calls Tryz.prog 260 #[.agg (Flat.e (x1)).toArray] w0 fun e w=>e = .returned (.bool (r)) ∧ Ext [] w0 w:=by
 refine enter (vs:=[_]) func260 z ntmps260 z fun a k=>?_
 have m:=St.start w0
 unfold d_spec_TypeOk at h
 refine wr (s_box (cs:=[I x1.fId,I x1.fW,I x1.fH,I x1.fD,I x1.fTare,I x1.fGram,I x1.fCost]) m k z z z z z z fun b2 w4 a k m e Aa=>pN 1 k z fun a k=>nn (wr (sv k z (r_fa fa79_0 k z z) fun a k=>sv k z (r_ldb t13 m 0 Aa 0 k z z z z z) fun a k=>oE h fun x5 Ao h=>cE k m call259 z z z (c_spec_l2Id fu _  Ao) fun w9 e a k m=>pN 1 k z fun a k=>bsplit (x5) (fun Ab=>?_) (fun Ab=>?_))))
 · have h:=bif_t Ab h
   refine rB k 6 z Ab fun k=>sv k z (r_fa fa79_1 k z z) fun a k=>sv k z (r_ldb t13 m 0 Aa 1 k z z z z z) fun a k=>oE h fun Ar As h=>cE k m call297 z z z (c_spec_l2Side fu _  As) fun Av e a k m=>pN 2 k z fun a k=>bsplit (Ar) (fun Af=>?_) (fun Af=>?_)
   · have h:=bif_t Af h
     refine rB k 11 z Af fun k=>sv k z (r_fa fa79_2 k z z) fun a k=>sv k z (r_ldb t13 m 0 Aa 2 k z z z z z) fun a k=>oE h fun Aj Al h=>cE k m call297 z z z (c_spec_l2Side fu _  Al) fun Ax e a k m=>pN 2 k z fun a k=>bsplit (Aj) (fun Ag=>?_) (fun Ag=>?_)
     · have h:=bif_t Ag h
       refine rB k 16 z Ag fun k=>sv k z (r_fa fa79_3 k z z) fun a k=>sv k z (r_ldb t13 m 0 Aa 3 k z z z z z) fun a k=>oE h fun Aq Ak h=>cE k m call297 z z z (c_spec_l2Side fu _  Ak) fun Au e a k m=>pN 2 k z fun a k=>bsplit (Aq) (fun Ae=>?_) (fun Ae=>?_)
       · have h:=bif_t Ae h
         refine rB k 21 z Ae fun k=>sv k z (r_fa fa79_4 k z z) fun a k=>sv k z (r_ldb t13 m 0 Aa 4 k z z z z z) fun a k=>oE h fun Ai Ah h=>cE k m call130 z z z (c_spec_l1In fu _ _ _  Ah) fun Ba e a k m=>pN 2 k z fun a k=>bsplit (Ai) (fun Ad=>?_) (fun Ad=>?_)
         · have h:=bif_t Ad h
           refine rB k 26 z Ad fun k=>sv k z (r_fa fa79_5 k z z) fun a k=>sv k z (r_ldb t13 m 0 Aa 5 k z z z z z) fun a k=>oE h fun Ap At h=>cE k m call130 z z z (c_spec_l1In fu _ _ _  At) fun Az e a k m=>pN 2 k z fun a k=>bsplit (Ap) (fun Ac=>?_) (fun Ac=>?_)
           · have h:=bif_t Ac h
             refine rB k 31 z Ac fun k=>sv k z (r_fa fa79_6 k z z) fun a k=>sv k z (r_ldb t13 m 0 Aa 6 k z z z z z) fun a k=>oE h fun Aw Am h=>cE k m call130 z z z (c_spec_l1In fu _ _ _  Am) fun Ay e a k m=>pN 2 k z fun a k=>?_
             have k:=k.keep [2] z
             refine nn (wp_ret (fS h k m z z))
           have h:=bif_f Ac h
           refine rB k 31 z Ac fun k=>pN 5 k z fun a k=>?_
           have k:=k.keep [2] z
           refine nn (wp_ret (fS h k m z z))
         have h:=bif_f Ad h
         refine rB k 26 z Ad fun k=>pN 10 k z fun a k=>?_
         have k:=k.keep [2] z
         refine nn (wp_ret (fS h k m z z))
       have h:=bif_f Ae h
       refine rB k 21 z Ae fun k=>pN 15 k z fun a k=>?_
       have k:=k.keep [2] z
       refine nn (wp_ret (fS h k m z z))
     have h:=bif_f Ag h
     refine rB k 16 z Ag fun k=>pN 20 k z fun a k=>?_
     have k:=k.keep [2] z
     refine nn (wp_ret (fS h k m z z))
   have h:=bif_f Af h
   refine rB k 11 z Af fun k=>pN 25 k z fun a k=>?_
   have k:=k.keep [2] z
   refine nn (wp_ret (fS h k m z z))
 have h:=bif_f Ab h
 refine rB k 6 z Ab fun k=>pN 30 k z fun a k=>?_
 have k:=k.keep [2] z
 refine nn (wp_ret (fS h k m z z))
theorem c_spec_ItemOk (fu:Nat) {w0:World} (x1:Item)  {r:Bool}
    (h:d_spec_ItemOk fu x1 = some r) :
    Calls Tryz.prog 261 #[.agg (Flat.e (x1)).toArray] w0 fun e w=>e = .returned (.bool (r)) ∧ Ext [] w0 w:=by
 refine enter (vs:=[_]) func261 z ntmps261 z fun a k=>?_
 have m:=St.start w0
 unfold d_spec_ItemOk at h
 refine wr (s_box (cs:=[I x1.fId,I x1.fW,I x1.fH,I x1.fD,I x1.fGram,I x1.fClass,I x1.fCount]) m k z z z z z z fun b2 w4 a k m e Aa=>pN 1 k z fun a k=>nn (wr (sv k z (r_fa fa158_0 k z z) fun a k=>sv k z (r_ldb t13 m 0 Aa 0 k z z z z z) fun a k=>oE h fun x5 Ao h=>cE k m call259 z z z (c_spec_l2Id fu _  Ao) fun w9 e a k m=>pN 1 k z fun a k=>bsplit (x5) (fun Ab=>?_) (fun Ab=>?_))))
 · have h:=bif_t Ab h
   refine rB k 6 z Ab fun k=>sv k z (r_fa fa158_1 k z z) fun a k=>sv k z (r_ldb t13 m 0 Aa 1 k z z z z z) fun a k=>oE h fun Ar As h=>cE k m call297 z z z (c_spec_l2Side fu _  As) fun Av e a k m=>pN 2 k z fun a k=>bsplit (Ar) (fun Af=>?_) (fun Af=>?_)
   · have h:=bif_t Af h
     refine rB k 11 z Af fun k=>sv k z (r_fa fa158_2 k z z) fun a k=>sv k z (r_ldb t13 m 0 Aa 2 k z z z z z) fun a k=>oE h fun Aj Al h=>cE k m call297 z z z (c_spec_l2Side fu _  Al) fun Ax e a k m=>pN 2 k z fun a k=>bsplit (Aj) (fun Ag=>?_) (fun Ag=>?_)
     · have h:=bif_t Ag h
       refine rB k 16 z Ag fun k=>sv k z (r_fa fa158_3 k z z) fun a k=>sv k z (r_ldb t13 m 0 Aa 3 k z z z z z) fun a k=>oE h fun Aq Ak h=>cE k m call297 z z z (c_spec_l2Side fu _  Ak) fun Au e a k m=>pN 2 k z fun a k=>bsplit (Aq) (fun Ae=>?_) (fun Ae=>?_)
       · have h:=bif_t Ae h
         refine rB k 21 z Ae fun k=>sv k z (r_fa fa158_4 k z z) fun a k=>sv k z (r_ldb t13 m 0 Aa 4 k z z z z z) fun a k=>oE h fun Ai Ah h=>cE k m call130 z z z (c_spec_l1In fu _ _ _  Ah) fun Ba e a k m=>pN 2 k z fun a k=>bsplit (Ai) (fun Ad=>?_) (fun Ad=>?_)
         · have h:=bif_t Ad h
           refine rB k 26 z Ad fun k=>sv k z (r_fa fa158_5 k z z) fun a k=>sv k z (r_ldb t13 m 0 Aa 5 k z z z z z) fun a k=>oE h fun Ap At h=>cE k m call130 z z z (c_spec_l1In fu _ _ _  At) fun Az e a k m=>pN 2 k z fun a k=>bsplit (Ap) (fun Ac=>?_) (fun Ac=>?_)
           · have h:=bif_t Ac h
             refine rB k 31 z Ac fun k=>sv k z (r_fa fa158_6 k z z) fun a k=>sv k z (r_ldb t13 m 0 Aa 6 k z z z z z) fun a k=>oE h fun Aw Am h=>cE k m call130 z z z (c_spec_l1In fu _ _ _  Am) fun Ay e a k m=>pN 2 k z fun a k=>?_
             have k:=k.keep [2] z
             refine nn (wp_ret (fS h k m z z))
           have h:=bif_f Ac h
           refine rB k 31 z Ac fun k=>pN 5 k z fun a k=>?_
           have k:=k.keep [2] z
           refine nn (wp_ret (fS h k m z z))
         have h:=bif_f Ad h
         refine rB k 26 z Ad fun k=>pN 10 k z fun a k=>?_
         have k:=k.keep [2] z
         refine nn (wp_ret (fS h k m z z))
       have h:=bif_f Ae h
       refine rB k 21 z Ae fun k=>pN 15 k z fun a k=>?_
       have k:=k.keep [2] z
       refine nn (wp_ret (fS h k m z z))
     have h:=bif_f Ag h
     refine rB k 16 z Ag fun k=>pN 20 k z fun a k=>?_
     have k:=k.keep [2] z
     refine nn (wp_ret (fS h k m z z))
   have h:=bif_f Af h
   refine rB k 11 z Af fun k=>pN 25 k z fun a k=>?_
   have k:=k.keep [2] z
   refine nn (wp_ret (fS h k m z z))
 have h:=bif_f Ab h
 refine rB k 6 z Ab fun k=>pN 30 k z fun a k=>?_
 have k:=k.keep [2] z
 refine nn (wp_ret (fS h k m z z))
theorem c_spec_BoundsOk (fu:Nat) {w0:World} (r1:Request) {Au:List Value} {F3:List Nat} (Bf:rd w0 F3 Au r1) {r:Bool}
    (h:d_spec_BoundsOk fu r1 = some r) :
    Calls Tryz.prog 187 #[.agg Au.toArray] w0 fun e w=>e = .returned (.bool (r)) ∧ Ext [] w0 w:=by
 refine enter (vs:=[_]) func187 z ntmps187 z fun a k=>?_
 have m:=St.start w0
 obtain ⟨v5,F6,v7,F8,v9,Ct,rfl,rfl,Ac,Am,Ad⟩:=Bf
 unfold d_spec_BoundsOk at h
 refine wr (s_box (cs:=[I r1.fWay,I r1.fPallet.fW,I r1.fPallet.fD,I r1.fPallet.fH,I r1.fPallet.fGram,I r1.fClasses,v5,v7,I r1.fMaster,v9]) m k z z z z z z fun Ab Ao a k m e Aa=>pN 1 k z fun a k=>nn (c_cut (fun a w=>K 111 [(1,.pointer (some (⟨Ab,0,none⟩:Addr)))] a ∧ St [] w0 w [([Ab],Ao)] ∧ d_spec_BoundsOk_J2 fu r1 = some r) ?_ ?_))
 · rintro a Cl ⟨k,m,h⟩
   unfold d_spec_BoundsOk_J2 at h
   refine wp_seq (wr (pN 1 k z fun a k=>nn (wp_block (c_loop (fun n a w=>∃ (Ae:Int),K 111 [(1,.pointer (some (⟨Ab,0,none⟩:Addr))),(3,I Ae)] a ∧ St [] w0 w [([Ab],Ao)] ∧ d_spec_BoundsOk_L3 fu r1 n Ae = some r) ?_ ?_ fu _ _ ?_))))
   · rintro a w ⟨_,_,_,h⟩
     exact nS h
   · rintro Bu a Ck ⟨Ae,k,m,h⟩
     rw [d_spec_BoundsOk_L3_s] at h
     unfold d_spec_BoundsOk_L3_B at h
     refine wp_seq (wr (pN 1 k z fun a k=>sv k z (r_fa fa38_3 k z z) fun a k=>sv k z (r_ldb t134 m 0 Aa 6 k z z z z z) fun a k=>sv k z (r_len (α:=Pair) Ac k underlying34 z z) fun a k=>pN 1 k z fun a k=>nn (cI h k z (fun Bb h=>?_) fun Bb h=>?_)))
     · refine wp_skip (nm_then ?_)
       refine c_cut (fun a w=>K 111 [(1,.pointer (some (⟨Ab,0,none⟩:Addr))),(3,I Ae)] a ∧ St [] w0 w [([Ab],Ao)] ∧ d_spec_BoundsOk_J1 fu (d_spec_BoundsOk_L3 fu r1 Bu) Ae = some r) ?_ ?_
       · rintro a Cm ⟨k,m,h⟩
         unfold d_spec_BoundsOk_J1 at h
         refine wp_region_lit (pN 3 k z fun a k=>nn ?_)
         exact ⟨w64 (Ae + 1),k.keep [1,3] z,m.sel [0] z (by decide),h⟩
       refine wp_block (wr (sv k z (r_fa fa38_3 k z z) fun a k=>sv k z (r_ldb t134 m 0 Aa 6 k z z z z z) fun a k=>pN 1 k z fun a k=>oE h fun Ca At h=>sv k z (r_ixa Ac At k ts34 z z z) fun a k=>sv k z (r_fa fa180_0 k z z) fun a k=>sv k z (r_lde1 Ac (m.a00 (Enc.rd_lt Ac)) At 0 t13 k z z z z) fun a k=>oE h fun Bt Bd h=>cE k m call130 z z z (c_spec_l1In fu _ _ _  Bd) fun Cs e a k m=>pN 2 k z fun a k=>bsplit (!Bt) (fun Al=>?_) (fun Al=>?_)))
       · have h:=bif_t Al h
         refine rB k 63 z Al fun k=>pN 9 k z fun a k=>nn (wp_cond_true (k.ev z) (wr (pN 1 k z fun a k=>nn (wp_ret (rt_block (rt_then (rt_then (rt_block (rt_then ?_)))))))))
         refine fS h k m z z
       have h:=bif_f Al h
       refine rB k 63 z Al fun k=>sv k z (r_fa fa38_3 k z z) fun a k=>sv k z (r_ldb t134 m 0 Aa 6 k z z z z z) fun a k=>pN 1 k z fun a k=>oE h fun Cd Cf h=>sv k z (r_ixa Ac At k ts34 z z z) fun a k=>sv k z (r_fa fa180_1 k z z) fun a k=>sv k z (r_lde1 Ac (m.a00 (Enc.rd_lt Ac)) At 1 t13 k z z z z) fun a k=>oE h fun Cg Br h=>cE k m call130 z z z (c_spec_l1In fu _ _ _  Br) fun Bx e a k m=>pN 2 k z fun a k=>nn (cI h k z (fun Ba h=>?_) fun Ba h=>?_)
       · refine wr (pN 1 k z fun a k=>nn (wp_ret (rt_block (rt_then (rt_then (rt_block (rt_then ?_)))))))
         refine fS h k m z z
       refine wp_skip (nm_block (nm_then ?_))
       exact ⟨k.keep [1,3] z,m.sel [0] z (by decide),h⟩
     refine wp_exit (ex_then (ex_then (ex_same (nm_then ?_))))
     refine wp_seq (wr (pN 1 k z fun a k=>nn (wp_block (c_loop (fun n a w=>∃ (Ap:Int),K 111 [(1,.pointer (some (⟨Ab,0,none⟩:Addr))),(4,I Ap)] a ∧ St [] w0 w [([Ab],Ao)] ∧ d_spec_BoundsOk_L2 fu r1 n Ap = some r) ?_ ?_ fu _ _ ?_))))
     · rintro a w ⟨_,_,_,h⟩
       exact nS h
     · rintro Ci a Cn ⟨Ap,k,m,h⟩
       rw [d_spec_BoundsOk_L2_s] at h
       unfold d_spec_BoundsOk_L2_B at h
       refine wp_seq (wr (pN 1 k z fun a k=>sv k z (r_fa fa38_4 k z z) fun a k=>sv k z (r_ldb t135 m 0 Aa 7 k z z z z z) fun a k=>sv k z (r_len (α:=Typ) Am k underlying35 z z) fun a k=>pN 1 k z fun a k=>nn (cI h k z (fun Ay h=>?_) fun Ay h=>?_)))
       · refine wp_skip (nm_then ?_)
         refine wp_seq (wp_block (wr (sv k z (r_fa fa38_4 k z z) fun a k=>sv k z (r_ldb t135 m 0 Aa 7 k z z z z z) fun a k=>pN 1 k z fun a k=>oE h fun Bq Av h=>sv k z (r_ixa Am Av k ts35 z z z) fun a k=>sv k z (r_lde Am (m.a00 (Enc.rd_lt Am)) Av ta79 k z z) fun a k=>oE h fun Cq Bc h=>cE k m call260 z z z (c_spec_TypeOk fu (Bq:Typ)  Bc) fun Cu e a k m=>pN 1 k z fun a k=>nn (cI h k z (fun Bk h=>?_) fun Bk h=>?_))))
         · refine wr (pN 1 k z fun a k=>nn (wp_ret (rt_block (rt_then (rt_then (rt_block (rt_then ?_)))))))
           refine fS h k m z z
         refine wp_skip (nm_block (nm_then ?_))
         refine wp_region_lit (pN 3 k z fun a k=>nn ?_)
         exact ⟨w64 (Ap + 1),k.keep [1,4] z,m.sel [0] z (by decide),h⟩
       refine wp_exit (ex_then (ex_then (ex_same (nm_then ?_))))
       refine wr (pN 1 k z fun a k=>nn (wp_seq (wr (pN 1 k z fun a k=>nn (wp_block (c_loop (fun n a w=>∃ (Aq:Int) (As:Int),K 111 [(1,.pointer (some (⟨Ab,0,none⟩:Addr))),(5,I Aq),(6,I As)] a ∧ St [] w0 w [([Ab],Ao)] ∧ d_spec_BoundsOk_L1 fu r1 n Aq As = some r) ?_ ?_ fu _ _ ?_))))))
       · rintro a w ⟨_,_,_,_,h⟩
         exact nS h
       · rintro Bz a Cj ⟨Aq,As,k,m,h⟩
         rw [d_spec_BoundsOk_L1_s] at h
         unfold d_spec_BoundsOk_L1_B at h
         refine wp_seq (wr (pN 1 k z fun a k=>sv k z (r_fa fa38_6 k z z) fun a k=>sv k z (r_ldb t136 m 0 Aa 9 k z z z z z) fun a k=>sv k z (r_len (α:=Item) Ad k underlying36 z z) fun a k=>pN 1 k z fun a k=>nn (cI h k z (fun Bi h=>?_) fun Bi h=>?_)))
         · refine wp_skip (nm_then ?_)
           refine wp_seq (wp_block (wp_seq (wr (sv k z (r_fa fa38_6 k z z) fun a k=>sv k z (r_ldb t136 m 0 Aa 9 k z z z z z) fun a k=>pN 1 k z fun a k=>oE h fun Aw Ar h=>sv k z (r_ixa Ad Ar k ts36 z z z) fun a k=>sv k z (r_lde Ad (m.a00 (Enc.rd_lt Ad)) Ar ta158 k z z) fun a k=>oE h fun Bw Bg h=>cE k m call261 z z z (c_spec_ItemOk fu (Aw:Item)  Bg) fun By e a k m=>pN 1 k z fun a k=>nn (cI h k z (fun Bh h=>?_) fun Bh h=>?_)))))
           · refine wr (pN 1 k z fun a k=>nn (wp_ret (rt_then (rt_block (rt_then (rt_then (rt_block (rt_then ?_))))))))
             refine fS h k m z z
           refine wp_skip (nm_then ?_)
           refine wp_region_lit (pN 1 k z fun a k=>sv k z (r_fa fa38_6 k z z) fun a k=>sv k z (r_ldb t136 m 0 Aa 9 k z z z z z) fun a k=>pN 1 k z fun a k=>oE h fun Co Cb h=>sv k z (r_ixa Ad Ar k ts36 z z z) fun a k=>sv k z (r_fa fa158_6 k z z) fun a k=>sv k z (r_lde1 Ad (m.a00 (Enc.rd_lt Ad)) Ar 6 t13 k z z z z) fun a k=>pN 2 k z fun a k=>wpList_nil (nm_block (nm_then ?_)))
           refine wp_region_lit (pN 3 k z fun a k=>nn ?_)
           exact ⟨w64 (Aq + Aw.fCount),w64 (As + 1),k.keep [1,5,6] z,m.sel [0] z (by decide),h⟩
         refine wp_exit (ex_then (ex_then (ex_same (nm_then ?_))))
         refine wr (pN 3 k z fun a k=>nn (wp_ret (fS h k m z z)))
       exact ⟨0,0,k.keep [1,5,6] z,m.sel [0] z (by decide),h⟩
     exact ⟨0,k.keep [1,4] z,m.sel [0] z (by decide),h⟩
   exact ⟨0,k.keep [1,3] z,m.sel [0] z (by decide),h⟩
 refine wr (sv k z (r_fa fa38_0 k z z) fun a k=>sv k z (r_ldb t13 m 0 Aa 0 k z z z z z) fun a k=>oE h fun Ax Bj h=>cE k m call130 z z z (c_spec_l1In fu _ _ _  Bj) fun Ch e a k m=>pN 2 k z fun a k=>bsplit (!Ax) (fun Ag=>?_) (fun Ag=>?_))
 · have h:=bif_t Ag h
   refine rB k 11 z Ag fun k=>pN 36 k z fun a k=>?_
   have k:=k.keep [1,47] z
   refine nn (wp_cond_true (k.ev z) (wr (pN 1 k z fun a k=>nn (wp_ret (rt_then ?_)))))
   refine fS h k m z z
 have h:=bif_f Ag h
 refine rB k 11 z Ag fun k=>sv k z (r_fa fa38_1 k z z) fun a k=>sv k z (r_ldB ta33 m 0 Aa 1 k z z z z z z) fun a k=>oE h fun Bs Bn h=>cE k m call258 z z z (c_spec_PalletOk fu (r1.fPallet:Pallet)  Bn) fun Ce e a k m=>pN 3 k z fun a k=>bsplit (!Bs) (fun Aj=>?_) (fun Aj=>?_)
 · have h:=bif_t Aj h
   refine rB k 17 z Aj fun k=>pN 30 k z fun a k=>?_
   have k:=k.keep [1,47] z
   refine nn (wp_cond_true (k.ev z) (wr (pN 1 k z fun a k=>nn (wp_ret (rt_then ?_)))))
   refine fS h k m z z
 have h:=bif_f Aj h
 refine rB k 17 z Aj fun k=>sv k z (r_fa fa38_2 k z z) fun a k=>sv k z (r_ldb t13 m 0 Aa 5 k z z z z z) fun a k=>oE h fun Bv Bo h=>cE k m call130 z z z (c_spec_l1In fu _ _ _  Bo) fun Cp e a k m=>pN 3 k z fun a k=>bsplit (!Bv) (fun Af=>?_) (fun Af=>?_)
 · have h:=bif_t Af h
   refine rB k 23 z Af fun k=>pN 24 k z fun a k=>?_
   have k:=k.keep [1,47] z
   refine nn (wp_cond_true (k.ev z) (wr (pN 1 k z fun a k=>nn (wp_ret (rt_then ?_)))))
   refine fS h k m z z
 have h:=bif_f Af h
 refine rB k 23 z Af fun k=>sv k z (r_fa fa38_3 k z z) fun a k=>sv k z (r_ldb t134 m 0 Aa 6 k z z z z z) fun a k=>sv k z (r_len (α:=Pair) Ac k underlying34 z z) fun a k=>pN 3 k z fun a k=>bsplit (decide (((r1.fPairs.length:Int)) > 16)) (fun Ak=>?_) (fun Ak=>?_)
 · have h:=bif_t Ak h
   refine rB k 29 z Ak fun k=>pN 18 k z fun a k=>?_
   have k:=k.keep [1,47] z
   refine nn (wp_cond_true (k.ev z) (wr (pN 1 k z fun a k=>nn (wp_ret (rt_then ?_)))))
   refine fS h k m z z
 have h:=bif_f Ak h
 refine rB k 29 z Ak fun k=>sv k z (r_fa fa38_4 k z z) fun a k=>sv k z (r_ldb t135 m 0 Aa 7 k z z z z z) fun a k=>sv k z (r_len (α:=Typ) Am k underlying35 z z) fun a k=>oE h fun Be Az h=>cE k m call130 z z z (c_spec_l1In fu _ _ _  Az) fun Cc e a k m=>pN 3 k z fun a k=>bsplit (!Be) (fun Ah=>?_) (fun Ah=>?_)
 · have h:=bif_t Ah h
   refine rB k 36 z Ah fun k=>pN 11 k z fun a k=>?_
   have k:=k.keep [1,47] z
   refine nn (wp_cond_true (k.ev z) (wr (pN 1 k z fun a k=>nn (wp_ret (rt_then ?_)))))
   refine fS h k m z z
 have h:=bif_f Ah h
 refine rB k 36 z Ah fun k=>sv k z (r_fa fa38_5 k z z) fun a k=>sv k z (r_ldb t13 m 0 Aa 8 k z z z z z) fun a k=>oE h fun Bl Bm h=>cE k m call259 z z z (c_spec_l2Id fu _  Bm) fun Cr e a k m=>pN 3 k z fun a k=>bsplit (!Bl) (fun Ai=>?_) (fun Ai=>?_)
 · have h:=bif_t Ai h
   refine rB k 42 z Ai fun k=>pN 5 k z fun a k=>?_
   have k:=k.keep [1,47] z
   refine nn (wp_cond_true (k.ev z) (wr (pN 1 k z fun a k=>nn (wp_ret (rt_then ?_)))))
   refine fS h k m z z
 have h:=bif_f Ai h
 refine rB k 42 z Ai fun k=>sv k z (r_fa fa38_6 k z z) fun a k=>sv k z (r_ldb t136 m 0 Aa 9 k z z z z z) fun a k=>sv k z (r_len (α:=Item) Ad k underlying36 z z) fun a k=>pN 2 k z fun a k=>?_
 have k:=k.keep [1,47] z
 refine nn (cI h k z (fun Bp h=>?_) fun Bp h=>?_)
 · refine wr (pN 1 k z fun a k=>nn (wp_ret (rt_then ?_)))
   refine fS h k m z z
 refine wp_skip (nm_then ?_)
 exact ⟨k.keep [1] z,m.sel [0] z (by decide),h⟩
theorem c_spec_MasterOf (fu:Nat) {w0:World} (r1:Request) {Ag:List Value} {F3:List Nat} (Al:rd w0 F3 Ag r1) {r:Typ × Bool}
    (h:d_spec_MasterOf fu r1 = some r) :
    Calls Tryz.prog 89 #[.agg Ag.toArray] w0 fun e w=>e = .returned (.tuple #[.agg (Flat.e r.1).toArray,.bool (r.2)]) ∧ Ext [] w0 w:=by
 refine enter (vs:=[_]) func89 z ntmps89 z fun a k=>?_
 have m:=St.start w0
 obtain ⟨v5,F6,v7,F8,v9,Ay,rfl,rfl,Aw,Ab,Az⟩:=Al
 unfold d_spec_MasterOf at h
 refine wr (s_box (cs:=[I r1.fWay,I r1.fPallet.fW,I r1.fPallet.fD,I r1.fPallet.fH,I r1.fPallet.fGram,I r1.fClasses,v5,v7,I r1.fMaster,v9]) m k z z z z z z fun Ai Ar a k m e Ad=>s_alloc (cs:=[I 0,I 0,I 0,I 0,I 0,I 0,I 0]) m k zeroValue79 z z z z z fun Af Am a k m e Ah=>pN 1 k z fun a k=>nn (wp_seq (wr (pN 1 k z fun a k=>nn (wp_block (c_loop (fun n a w=>∃ (Ae:Int),K 27 [(1,.pointer (some (⟨Ai,0,none⟩:Addr))),(2,.pointer (some (⟨Af,0,none⟩:Addr))),(4,I Ae)] a ∧ St [] w0 w [([Ai],Ar),([Af],Am)] ∧ d_spec_MasterOf_L1 fu r1 n Ae = some r) ?_ ?_ fu _ _ ?_))))))
 · rintro a w ⟨_,_,_,h⟩
   exact nS h
 · rintro Ba a Au ⟨Ae,k,m,h⟩
   rw [d_spec_MasterOf_L1_s] at h
   unfold d_spec_MasterOf_L1_B at h
   refine wp_seq (wr (pN 1 k z fun a k=>sv k z (r_fa fa38_4 k z z) fun a k=>sv k z (r_ldb t135 m 0 Ad 7 k z z z z z) fun a k=>sv k z (r_len (α:=Typ) Ab k underlying35 z z) fun a k=>pN 1 k z fun a k=>nn (cI h k z (fun Aj h=>?_) fun Aj h=>?_)))
   · refine wp_skip (nm_then ?_)
     refine wp_seq (wp_block (wp_seq (d_go [] mixo m z fun Ak hMd=>?_)))
     have m:=hMd
     have s:=Ext.refl ([]:List Nat) Ak
     refine dN [2] 1 z k (by kernel_rfl) z s (fun _ _ _ _ _=>id) fun a k=>dt k 0 z (by kernel_rfl) z s (fun _ _ _=>id) (fun w s=>r_fa fa38_4 k z z) fun a k=>dt k 1 z (by kernel_rfl) z s (fun _ _ _=>id) (fun w s=>r_ld1 t135 (r:=[]) (Ad.at ((hMd.step s).a 0 z) 7 1 z z z) k z z) fun a k=>oE h fun Aa Ac h=>dt k 3 z (by kernel_rfl) z s (fun _ _ _=>id) (fun w s=>r_ixa Ab Ac k ts35 z z z) fun a k=>dt k 4 z (by kernel_rfl) z s (fun _ _ _=>id) (fun w s=>r_fa fa79_0 k z z) fun a k=>dt k 5 z (by kernel_rfl) z s (fun _ _ _=>id) (fun w s=>r_lde1 Ab ((hMd.step s).a00 (Enc.rd_lt Ab)) Ac 0 t13 k z z z z) fun a k=>dt k 6 z (by kernel_rfl) z s (fun _ _ _=>id) (fun w s=>r_fa fa38_5 k z z) fun a k=>?_
     refine dt k 7 z (by kernel_rfl) z s (fun _ _ _=>id) (fun w s=>r_ld1 t13 (r:=[]) (Ad.at ((hMd.step s).a 0 z) 8 1 z z z) k z z) fun a k=>dN [8] 1 z k (by kernel_rfl) z s (fun _ _ _ _ _=>id) fun a k=>d_done (by kernel_rfl) ((nm_then ?_))
     refine cI h k z (fun Ap h=>?_) fun Ap h=>?_
     · refine wr (sv k z (r_fa fa38_4 k z z) fun a k=>sv k z (r_ldb t135 m 0 Ad 7 k z z z z z) fun a k=>pN 1 k z fun a k=>oE h fun Ax As h=>sv k z (r_ixa Ab Ac k ts35 z z z) fun a k=>sv k z (r_lde Ab (m.a00 (Enc.rd_lt Ab)) Ac ta79 k z z) fun a k=>s_stb (cs':=[I Aa.fId,I Aa.fW,I Aa.fH,I Aa.fD,I Aa.fTare,I Aa.fGram,I Aa.fCost]) sizeOf79 m 1 Ah 0 k z z z z z z z z z z z fun At a k e m Aq=>pN 1 k z fun a k=>nn (wp_ret (rt_block (rt_then (rt_then (rt_block (rt_then ?_)))))))
       cases h
       exact finR2 k z (RV.cA k z ta79 (Aq.at (m.a 1 z) 0 7 z z z) z) (RV.tmp k z) ⟨z,m.ext⟩
     refine wp_skip (nm_block (nm_then ?_))
     refine wp_region_lit (pN 3 k z fun a k=>nn ?_)
     exact ⟨w64 (Ae + 1),k.keep [1,2,4] z,m.sel [0,1] z (by decide),h⟩
   refine wp_exit (ex_then (ex_then (ex_same (nm_then ?_))))
   refine wr (sv k z (r_build bt79 k (cs:=#[I 0,I 0,I 0,I 0,I 0,I 0,I 0]) (ps:=[]) z z (by kernel_rfl)) fun a k=>s_stb (cs':=[I 0,I 0,I 0,I 0,I 0,I 0,I 0]) sizeOf79 m 1 Ah 0 k z z z z z z z z z z z fun Av a k e m Ao=>pN 1 k z fun a k=>nn (wp_ret ?_))
   cases h
   exact finR2 k z (RV.cA k z ta79 (Ao.at (m.a 1 z) 0 7 z z z) z) (RV.tmp k z) ⟨z,m.ext⟩
 exact ⟨0,k.keep [1,2,4] z,m.sel [1,0] z (by decide),h⟩
theorem c_spec_l5Names (fu:Nat) {w0:World} (r1:Request) {As:List Value} {F3:List Nat} (Bb:rd w0 F3 As r1) {r:Bool}
    (h:d_spec_l5Names fu r1 = some r) :
    Calls Tryz.prog 188 #[.agg As.toArray] w0 fun e w=>e = .returned (.bool (r)) ∧ Ext [] w0 w:=by
 refine enter (vs:=[_]) func188 z ntmps188 z fun a k=>?_
 have m:=St.start w0
 obtain ⟨v5,F6,v7,F8,v9,Cd,rfl,rfl,Ad,Ae,Ab⟩:=Bb
 unfold d_spec_l5Names at h
 refine wr (s_box (cs:=[I r1.fWay,I r1.fPallet.fW,I r1.fPallet.fD,I r1.fPallet.fH,I r1.fPallet.fGram,I r1.fClasses,v5,v7,I r1.fMaster,v9]) m k z z z z z z fun Ac Aj a k m e Aa=>pN 1 k z fun a k=>nn (wp_seq (wr (pN 1 k z fun a k=>nn (wp_block (c_loop (fun n a w=>∃ (Ai:Int),K 102 [(1,.pointer (some (⟨Ac,0,none⟩:Addr))),(3,I Ai)] a ∧ St [] w0 w [([Ac],Aj)] ∧ d_spec_l5Names_L5 fu r1 n Ai = some r) ?_ ?_ fu _ _ ?_))))))
 · rintro a w ⟨_,_,_,h⟩
   exact nS h
 · rintro Bh a Cf ⟨Ai,k,m,h⟩
   rw [d_spec_l5Names_L5_s] at h
   unfold d_spec_l5Names_L5_B at h
   refine wp_seq (wr (pN 1 k z fun a k=>sv k z (r_fa fa38_4 k z z) fun a k=>sv k z (r_ldb t135 m 0 Aa 7 k z z z z z) fun a k=>sv k z (r_len (α:=Typ) Ae k underlying35 z z) fun a k=>pN 1 k z fun a k=>nn (cI h k z (fun Bd h=>?_) fun Bd h=>?_)))
   · refine wp_skip (nm_then ?_)
     refine wp_seq (wp_block (wr (pN 1 k z fun a k=>nn (wp_block (c_loop (fun n a w=>∃ (Al:Int),K 102 [(1,.pointer (some (⟨Ac,0,none⟩:Addr))),(3,I Ai),(4,I Al)] a ∧ St [] w0 w [([Ac],Aj)] ∧ d_spec_l5Names_L1 fu (d_spec_l5Names_L5 fu r1 Bh) r1 Ai n Al = some r) ?_ ?_ fu _ _ ?_)))))
     · rintro a w ⟨_,_,_,h⟩
       exact nS h
     · rintro Cc a Bs ⟨Al,k,m,h⟩
       rw [d_spec_l5Names_L1_s] at h
       unfold d_spec_l5Names_L1_B at h
       refine wp_seq (wr (pN 3 k z fun a k=>nn (cI h k z (fun Aw h=>?_) fun Aw h=>?_)))
       · refine wp_skip (nm_then ?_)
         refine wp_seq (wp_block (wp_seq (d_go [] mixo m z fun Bc hMd=>?_)))
         have m:=hMd
         have s:=Ext.refl ([]:List Nat) Bc
         refine dN [2,8] 2 z k (by kernel_rfl) z s (fun _ _ _ _ _=>id) fun a k=>dt k 0 z (by kernel_rfl) z s (fun _ _ _=>id) (fun w s=>r_fa fa38_4 k z z) fun a k=>dt k 1 z (by kernel_rfl) z s (fun _ _ _=>id) (fun w s=>r_ld1 t135 (r:=[]) (Aa.at ((hMd.step s).a 0 z) 7 1 z z z) k z z) fun a k=>oE h fun Ch Au h=>dt k 3 z (by kernel_rfl) z s (fun _ _ _=>id) (fun w s=>r_ixa Ae Au k ts35 z z z) fun a k=>dt k 4 z (by kernel_rfl) z s (fun _ _ _=>id) (fun w s=>r_fa fa79_0 k z z) fun a k=>dt k 5 z (by kernel_rfl) z s (fun _ _ _=>id) (fun w s=>r_lde1 Ae ((hMd.step s).a00 (Enc.rd_lt Ae)) Au 0 t13 k z z z z) fun a k=>dt k 6 z (by kernel_rfl) z s (fun _ _ _=>id) (fun w s=>r_fa fa38_4 k z z) fun a k=>?_
         refine dt k 7 z (by kernel_rfl) z s (fun _ _ _=>id) (fun w s=>r_ld1 t135 (r:=[]) (Aa.at ((hMd.step s).a 0 z) 7 1 z z z) k z z) fun a k=>oE h fun Bp Ap h=>dt k 9 z (by kernel_rfl) z s (fun _ _ _=>id) (fun w s=>r_ixa Ae Ap k ts35 z z z) fun a k=>dt k 10 z (by kernel_rfl) z s (fun _ _ _=>id) (fun w s=>r_fa fa79_0 k z z) fun a k=>dt k 11 z (by kernel_rfl) z s (fun _ _ _=>id) (fun w s=>r_lde1 Ae ((hMd.step s).a00 (Enc.rd_lt Ae)) Ap 0 t13 k z z z z) fun a k=>dN [12] 1 z k (by kernel_rfl) z s (fun _ _ _ _ _=>id) fun a k=>d_done (by kernel_rfl) ((nm_then ?_))
         refine cI h k z (fun Ba h=>?_) fun Ba h=>?_
         · refine wr (pN 1 k z fun a k=>nn (wp_ret (rt_block (rt_then (rt_then (rt_block (rt_block (rt_then (rt_then (rt_block (rt_then ?_)))))))))))
           refine fS h k m z z
         refine wp_skip (nm_block (nm_then ?_))
         refine wp_region_lit (pN 3 k z fun a k=>nn ?_)
         exact ⟨w64 (Al + 1),k.keep [1,3,4] z,m.sel [0] z (by decide),h⟩
       refine wp_exit (ex_then (ex_then (ex_same (nm_block (nm_then ?_)))))
       refine wp_region_lit (pN 3 k z fun a k=>nn ?_)
       exact ⟨w64 (Ai + 1),k.keep [1,3] z,m.sel [0] z (by decide),h⟩
     exact ⟨0,k.keep [1,3,4] z,m.sel [0] z (by decide),h⟩
   refine wp_exit (ex_then (ex_then (ex_same (nm_then ?_))))
   refine wp_seq (wr (pN 1 k z fun a k=>nn (wp_block (c_loop (fun n a w=>∃ (Ag:Int),K 102 [(1,.pointer (some (⟨Ac,0,none⟩:Addr))),(5,I Ag)] a ∧ St [] w0 w [([Ac],Aj)] ∧ d_spec_l5Names_L4 fu r1 n Ag = some r) ?_ ?_ fu _ _ ?_))))
   · rintro a w ⟨_,_,_,h⟩
     exact nS h
   · rintro Be a Bt ⟨Ag,k,m,h⟩
     rw [d_spec_l5Names_L4_s] at h
     unfold d_spec_l5Names_L4_B at h
     refine wp_seq (wr (pN 1 k z fun a k=>sv k z (r_fa fa38_6 k z z) fun a k=>sv k z (r_ldb t136 m 0 Aa 9 k z z z z z) fun a k=>sv k z (r_len (α:=Item) Ab k underlying36 z z) fun a k=>pN 1 k z fun a k=>nn (cI h k z (fun Bl h=>?_) fun Bl h=>?_)))
     · refine wp_skip (nm_then ?_)
       refine wp_seq (wp_block (wp_seq (wp_seq (d_go [] mixo m z fun Az hMd=>?_))))
       have m:=hMd
       have s:=Ext.refl ([]:List Nat) Az
       refine dN [2] 1 z k (by kernel_rfl) z s (fun _ _ _ _ _=>id) fun a k=>dt k 0 z (by kernel_rfl) z s (fun _ _ _=>id) (fun w s=>r_fa fa38_6 k z z) fun a k=>dt k 1 z (by kernel_rfl) z s (fun _ _ _=>id) (fun w s=>r_ld1 t136 (r:=[]) (Aa.at ((hMd.step s).a 0 z) 9 1 z z z) k z z) fun a k=>oE h fun Cb At h=>dt k 3 z (by kernel_rfl) z s (fun _ _ _=>id) (fun w s=>r_ixa Ab At k ts36 z z z) fun a k=>dt k 4 z (by kernel_rfl) z s (fun _ _ _=>id) (fun w s=>r_fa fa158_5 k z z) fun a k=>dt k 5 z (by kernel_rfl) z s (fun _ _ _=>id) (fun w s=>r_lde1 Ab ((hMd.step s).a00 (Enc.rd_lt Ab)) At 5 t13 k z z z z) fun a k=>dt k 6 z (by kernel_rfl) z s (fun _ _ _=>id) (fun w s=>r_fa fa38_2 k z z) fun a k=>?_
       refine dt k 7 z (by kernel_rfl) z s (fun _ _ _=>id) (fun w s=>r_ld1 t13 (r:=[]) (Aa.at ((hMd.step s).a 0 z) 5 1 z z z) k z z) fun a k=>dN [8] 1 z k (by kernel_rfl) z s (fun _ _ _ _ _=>id) fun a k=>d_done (by kernel_rfl) ((nm_then ?_))
       refine cI h k z (fun Bg h=>?_) fun Bg h=>?_
       · refine wr (pN 1 k z fun a k=>nn (wp_ret (rt_then (rt_block (rt_then (rt_then (rt_block (rt_then ?_))))))))
         refine fS h k m z z
       refine wp_skip (nm_then ?_)
       refine wr (pN 1 k z fun a k=>nn (wp_block (c_loop (fun n a w=>∃ (Am:Int),K 102 [(1,.pointer (some (⟨Ac,0,none⟩:Addr))),(5,I Ag),(6,I Am)] a ∧ St [] w0 w [([Ac],Aj)] ∧ d_spec_l5Names_L2 fu (d_spec_l5Names_L4 fu r1 Be) r1 Ag n Am = some r) ?_ ?_ fu _ _ ?_)))
       · rintro a w ⟨_,_,_,h⟩
         exact nS h
       · rintro Bx a Ca ⟨Am,k,m,h⟩
         rw [d_spec_l5Names_L2_s] at h
         unfold d_spec_l5Names_L2_B at h
         refine wp_seq (wr (pN 3 k z fun a k=>nn (cI h k z (fun Av h=>?_) fun Av h=>?_)))
         · refine wp_skip (nm_then ?_)
           refine wp_seq (wp_block (wp_seq (d_go [] mixo m z fun Bm hMd=>?_)))
           have m:=hMd
           have s:=Ext.refl ([]:List Nat) Bm
           refine dN [2,8] 2 z k (by kernel_rfl) z s (fun _ _ _ _ _=>id) fun a k=>dt k 0 z (by kernel_rfl) z s (fun _ _ _=>id) (fun w s=>r_fa fa38_6 k z z) fun a k=>dt k 1 z (by kernel_rfl) z s (fun _ _ _=>id) (fun w s=>r_ld1 t136 (r:=[]) (Aa.at ((hMd.step s).a 0 z) 9 1 z z z) k z z) fun a k=>oE h fun Ce Ar h=>dt k 3 z (by kernel_rfl) z s (fun _ _ _=>id) (fun w s=>r_ixa Ab Ar k ts36 z z z) fun a k=>dt k 4 z (by kernel_rfl) z s (fun _ _ _=>id) (fun w s=>r_fa fa158_0 k z z) fun a k=>dt k 5 z (by kernel_rfl) z s (fun _ _ _=>id) (fun w s=>r_lde1 Ab ((hMd.step s).a00 (Enc.rd_lt Ab)) Ar 0 t13 k z z z z) fun a k=>dt k 6 z (by kernel_rfl) z s (fun _ _ _=>id) (fun w s=>r_fa fa38_6 k z z) fun a k=>?_
           refine dt k 7 z (by kernel_rfl) z s (fun _ _ _=>id) (fun w s=>r_ld1 t136 (r:=[]) (Aa.at ((hMd.step s).a 0 z) 9 1 z z z) k z z) fun a k=>oE h fun Cg Aq h=>dt k 9 z (by kernel_rfl) z s (fun _ _ _=>id) (fun w s=>r_ixa Ab Aq k ts36 z z z) fun a k=>dt k 10 z (by kernel_rfl) z s (fun _ _ _=>id) (fun w s=>r_fa fa158_0 k z z) fun a k=>dt k 11 z (by kernel_rfl) z s (fun _ _ _=>id) (fun w s=>r_lde1 Ab ((hMd.step s).a00 (Enc.rd_lt Ab)) Aq 0 t13 k z z z z) fun a k=>dN [12] 1 z k (by kernel_rfl) z s (fun _ _ _ _ _=>id) fun a k=>d_done (by kernel_rfl) ((nm_then ?_))
           refine cI h k z (fun Bi h=>?_) fun Bi h=>?_
           · refine wr (pN 1 k z fun a k=>nn (wp_ret (rt_block (rt_then (rt_then (rt_block (rt_block (rt_then (rt_then (rt_block (rt_then ?_)))))))))))
             refine fS h k m z z
           refine wp_skip (nm_block (nm_then ?_))
           refine wp_region_lit (pN 3 k z fun a k=>nn ?_)
           exact ⟨w64 (Am + 1),k.keep [1,5,6] z,m.sel [0] z (by decide),h⟩
         refine wp_exit (ex_then (ex_then (ex_same (nm_block (nm_then ?_)))))
         refine wp_region_lit (pN 3 k z fun a k=>nn ?_)
         exact ⟨w64 (Ag + 1),k.keep [1,5] z,m.sel [0] z (by decide),h⟩
       exact ⟨0,k.keep [1,5,6] z,m.sel [0] z (by decide),h⟩
     refine wp_exit (ex_then (ex_then (ex_same (nm_then ?_))))
     refine wp_seq (wr (pN 1 k z fun a k=>nn (wp_block (c_loop (fun n a w=>∃ (Ah:Int),K 102 [(1,.pointer (some (⟨Ac,0,none⟩:Addr))),(7,I Ah)] a ∧ St [] w0 w [([Ac],Aj)] ∧ d_spec_l5Names_L3 fu r1 n Ah = some r) ?_ ?_ fu _ _ ?_))))
     · rintro a w ⟨_,_,_,h⟩
       exact nS h
     · rintro Bj a Bw ⟨Ah,k,m,h⟩
       rw [d_spec_l5Names_L3_s] at h
       unfold d_spec_l5Names_L3_B at h
       refine wp_seq (wr (pN 1 k z fun a k=>sv k z (r_fa fa38_3 k z z) fun a k=>sv k z (r_ldb t134 m 0 Aa 6 k z z z z z) fun a k=>sv k z (r_len (α:=Pair) Ad k underlying34 z z) fun a k=>pN 1 k z fun a k=>nn (cI h k z (fun Bn h=>?_) fun Bn h=>?_)))
       · refine wp_skip (nm_then ?_)
         refine c_cut (fun a w=>K 102 [(1,.pointer (some (⟨Ac,0,none⟩:Addr))),(7,I Ah)] a ∧ St [] w0 w [([Ac],Aj)] ∧ d_spec_l5Names_J1 fu (d_spec_l5Names_L3 fu r1 Bj) Ah = some r) ?_ ?_
         · rintro a Cj ⟨k,m,h⟩
           unfold d_spec_l5Names_J1 at h
           refine wp_region_lit (pN 3 k z fun a k=>nn ?_)
           exact ⟨w64 (Ah + 1),k.keep [1,7] z,m.sel [0] z (by decide),h⟩
         refine wp_block (wp_seq (d_go [] mixo m z fun Bk hMd=>?_))
         have m:=hMd
         have s:=Ext.refl ([]:List Nat) Bk
         refine dN [2] 1 z k (by kernel_rfl) z s (fun _ _ _ _ _=>id) fun a k=>dt k 0 z (by kernel_rfl) z s (fun _ _ _=>id) (fun w s=>r_fa fa38_3 k z z) fun a k=>dt k 1 z (by kernel_rfl) z s (fun _ _ _=>id) (fun w s=>r_ld1 t134 (r:=[]) (Aa.at ((hMd.step s).a 0 z) 6 1 z z z) k z z) fun a k=>oE h fun Bo Ao h=>dt k 3 z (by kernel_rfl) z s (fun _ _ _=>id) (fun w s=>r_ixa Ad Ao k ts34 z z z) fun a k=>dt k 4 z (by kernel_rfl) z s (fun _ _ _=>id) (fun w s=>r_fa fa180_0 k z z) fun a k=>dt k 5 z (by kernel_rfl) z s (fun _ _ _=>id) (fun w s=>r_lde1 Ad ((hMd.step s).a00 (Enc.rd_lt Ad)) Ao 0 t13 k z z z z) fun a k=>dt k 6 z (by kernel_rfl) z s (fun _ _ _=>id) (fun w s=>r_fa fa38_2 k z z) fun a k=>?_
         refine dt k 7 z (by kernel_rfl) z s (fun _ _ _=>id) (fun w s=>r_ld1 t13 (r:=[]) (Aa.at ((hMd.step s).a 0 z) 5 1 z z z) k z z) fun a k=>dN [8,9] 2 z k (by kernel_rfl) z s (fun _ _ _ _ _=>id) fun a k=>bsplit (decide (Bo.fA ≥ r1.fClasses)) (fun Ak=>?_) (fun Ak=>?_)
         · have h:=bif_t Ak h
           refine rB k 85 z Ak fun k=>dN [10,11,12,13,14,15,16,17,18,19] 10 z k (by kernel_rfl) z s (fun _ _ _ _ _=>id) fun a k=>d_done (by kernel_rfl) ?_
           have k:=k.keep [1,7,95] z
           refine (nm_then ?_)
           refine wp_cond_true (k.ev z) (wr (pN 1 k z fun a k=>nn (wp_ret (rt_block (rt_then (rt_then (rt_block (rt_then ?_))))))))
           refine fS h k m z z
         have h:=bif_f Ak h
         refine rB k 85 z Ak fun k=>dN [12] 1 z k (by kernel_rfl) z s (fun _ _ _ _ _=>id) fun a k=>dt k 10 z (by kernel_rfl) z s (fun _ _ _=>id) (fun w s=>r_fa fa38_3 k z z) fun a k=>dt k 11 z (by kernel_rfl) z s (fun _ _ _=>id) (fun w s=>r_ld1 t134 (r:=[]) (Aa.at ((hMd.step s).a 0 z) 6 1 z z z) k z z) fun a k=>oE h fun Bq Br h=>dt k 13 z (by kernel_rfl) z s (fun _ _ _=>id) (fun w s=>r_ixa Ad Ao k ts34 z z z) fun a k=>dt k 14 z (by kernel_rfl) z s (fun _ _ _=>id) (fun w s=>r_fa fa180_1 k z z) fun a k=>dt k 15 z (by kernel_rfl) z s (fun _ _ _=>id) (fun w s=>r_lde1 Ad ((hMd.step s).a00 (Enc.rd_lt Ad)) Ao 1 t13 k z z z z) fun a k=>dt k 16 z (by kernel_rfl) z s (fun _ _ _=>id) (fun w s=>r_fa fa38_2 k z z) fun a k=>?_
         refine dt k 17 z (by kernel_rfl) z s (fun _ _ _=>id) (fun w s=>r_ld1 t13 (r:=[]) (Aa.at ((hMd.step s).a 0 z) 5 1 z z z) k z z) fun a k=>dN [18,19] 2 z k (by kernel_rfl) z s (fun _ _ _ _ _=>id) fun a k=>d_done (by kernel_rfl) ?_
         have k:=k.keep [1,7,95] z
         refine (nm_then ?_)
         refine cI h k z (fun Ax h=>?_) fun Ax h=>?_
         · refine wr (pN 1 k z fun a k=>nn (wp_ret (rt_block (rt_then (rt_then (rt_block (rt_then ?_)))))))
           refine fS h k m z z
         refine wp_skip (nm_block (nm_then ?_))
         exact ⟨k.keep [1,7] z,m.sel [0] z (by decide),h⟩
       refine wp_exit (ex_then (ex_then (ex_same (nm_then ?_))))
       refine wr (sv k z (r_ldB ta38 m 0 Aa 0 k z z z z z z) fun a k=>oE h fun Af Ay h=>cE k m call89 z z z (c_spec_MasterOf fu _ (show rd _ _ [I r1.fWay,I r1.fPallet.fW,I r1.fPallet.fD,I r1.fPallet.fH,I r1.fPallet.fGram,I r1.fClasses,v5,v7,I r1.fMaster,v9] (r1:Request) from ⟨_,_,_,_,_,_,z,z,(Enc.rd_agr Ad (m.a00 (Enc.rd_lt Ad))),(Enc.rd_agr Ae (m.a00 (Enc.rd_lt Ae))),(Enc.rd_agr Ab (m.a00 (Enc.rd_lt Ab)))⟩) Ay) fun Bv e a k m=>pN 3 k z fun a k=>s_alloc (cs:=[I 0,I 0,I 0,I 0,I 0,I 0,I 0]) m k zeroValue79 z z z z z fun Bu Ci a k m e Bf=>?_)
       refine s_stb (cs':=[I Af.1.fId,I Af.1.fW,I Af.1.fH,I Af.1.fD,I Af.1.fTare,I Af.1.fGram,I Af.1.fCost]) sizeOf79 m 0 Bf 0 k z z z z z z z z z z z fun By a k e m Bz=>pN 1 k z fun a k=>nn (wr (pN 2 k z fun a k=>nn (wp_ret (fS h k m z z))))
     exact ⟨0,k.keep [1,7] z,m.sel [0] z (by decide),h⟩
   exact ⟨0,k.keep [1,5] z,m.sel [0] z (by decide),h⟩
 exact ⟨0,k.keep [1,3] z,m.sel [0] z (by decide),h⟩
theorem c_spec_Beside (fu:Nat) {w0:World} (Ae:List Pair) (a5:Int) (b6:Int) {v2:Value} {F3:List Nat} (Aa:rd w0 F3 [v2] Ae) {r:Bool}
    (h:d_spec_Beside fu Ae a5 b6 = some r) :
    Calls Tryz.prog 177 #[v2,I a5,I b6] w0 fun e w=>e = .returned (.bool (r)) ∧ Ext [] w0 w:=by
 refine enter (vs:=[_,_,_]) func177 z ntmps177 z fun a k=>?_
 have m:=St.start w0
 unfold d_spec_Beside at h
 refine wr (pN 1 k z fun a k=>nn (wp_seq (wr (pN 1 k z fun a k=>nn (wp_block (c_loop (fun n a w=>∃ (Ab:Int),K 30 [(0,v2),(1,I a5),(2,I b6),(7,I Ab)] a ∧ St [] w0 w [] ∧ d_spec_Beside_L1 fu Ae a5 b6 n Ab = some r) ?_ ?_ fu _ _ ?_))))))
 · rintro a w ⟨_,_,_,h⟩
   exact nS h
 · rintro Ag a Ak ⟨Ab,k,m,h⟩
   rw [d_spec_Beside_L1_s] at h
   unfold d_spec_Beside_L1_B at h
   refine wp_seq (wr (pN 2 k z fun a k=>sv k z (r_len (α:=Pair) Aa k underlying34 z z) fun a k=>pN 1 k z fun a k=>nn (cI h k z (fun Af h=>?_) fun Af h=>?_)))
   · refine wp_skip (nm_then ?_)
     refine c_cut (fun a w=>K 30 [(0,v2),(1,I a5),(2,I b6),(7,I Ab)] a ∧ St [] w0 w [] ∧ d_spec_Beside_J1 fu (d_spec_Beside_L1 fu Ae a5 b6 Ag) Ab = some r) ?_ ?_
     · rintro a Aj ⟨k,m,h⟩
       unfold d_spec_Beside_J1 at h
       refine wp_region_lit (pN 3 k z fun a k=>nn ?_)
       exact ⟨w64 (Ab + 1),k.keep [0,1,2,7] z,m.sel [] z (by decide),h⟩
     refine wp_block (wr (pN 2 k z fun a k=>oE h fun Ah Ad h=>sv k z (r_ixa Aa Ad k ts34 z z z) fun a k=>sv k z (r_fa fa180_0 k z z) fun a k=>sv k z (r_lde1 Aa (m.a00 (Enc.rd_lt Aa)) Ad 0 t13 k z z z z) fun a k=>pN 3 k z fun a k=>bsplit (Ah.fA == a5) (fun Ac=>?_) (fun Ac=>?_)))
     · have h:=bif_t Ac h
       refine rB k 21 z Ac fun k=>pN 2 k z fun a k=>oE h fun Al Am h=>sv k z (r_ixa Aa Ad k ts34 z z z) fun a k=>sv k z (r_fa fa180_1 k z z) fun a k=>sv k z (r_lde1 Aa (m.a00 (Enc.rd_lt Aa)) Ad 1 t13 k z z z z) fun a k=>pN 3 k z fun a k=>nn (cI h k z (fun Ai h=>?_) fun Ai h=>?_)
       · refine wr (pN 1 k z fun a k=>nn (wp_ret (rt_block (rt_then (rt_then (rt_block (rt_then ?_)))))))
         refine fS h k m z z
       refine wp_skip (nm_block (nm_then ?_))
       exact ⟨k.keep [0,1,2,7] z,m.sel [] z (by decide),h⟩
     have h:=bif_f Ac h
     refine rB k 21 z Ac fun k=>pN 8 k z fun a k=>nn (wp_cond_false (k.ev z) (wp_skip (nm_block (nm_then ?_))))
     exact ⟨k.keep [0,1,2,7] z,m.sel [] z (by decide),h⟩
   refine wp_exit (ex_then (ex_then (ex_same (nm_then ?_))))
   refine wr (pN 1 k z fun a k=>nn (wp_ret (fS h k m z z)))
 exact ⟨0,k.keep [0,1,2,7] z,m.sel [] z (by decide),h⟩
theorem c_spec_TableOk (fu:Nat) {w0:World} (Ae:List Pair) (Ab:Int) {v2:Value} {F3:List Nat} (Aa:rd w0 F3 [v2] Ae) {r:Bool}
    (h:d_spec_TableOk fu Ae Ab = some r) :
    Calls Tryz.prog 189 #[v2,I Ab] w0 fun e w=>e = .returned (.bool (r)) ∧ Ext [] w0 w:=by
 refine enter (vs:=[_,_]) func189 z ntmps189 z fun a k=>?_
 have m:=St.start w0
 unfold d_spec_TableOk at h
 refine wr (pN 1 k z fun a k=>nn (wp_seq (wr (pN 1 k z fun a k=>oE h fun x6 Ar h=>cE k m call130 z z z (c_spec_l1In fu _ _ _  Ar) fun w9 e a k m=>pN 1 k z fun a k=>nn (cI h k z (fun Ai h=>?_) fun Ai h=>?_)))))
 · refine wr (pN 1 k z fun a k=>nn (wp_ret (rt_then ?_)))
   refine fS h k m z z
 refine wp_skip (nm_then ?_)
 refine wp_seq (wr (pN 1 k z fun a k=>nn (wp_block (c_loop (fun n a w=>∃ (Ac:Int),K 41 [(0,v2),(1,I Ab),(5,I Ac)] a ∧ St [] w0 w [] ∧ d_spec_TableOk_L2 fu Ae Ab n Ac = some r) ?_ ?_ fu _ _ ?_))))
 · rintro a w ⟨_,_,_,h⟩
   exact nS h
 · rintro Ah a Bf ⟨Ac,k,m,h⟩
   rw [d_spec_TableOk_L2_s] at h
   unfold d_spec_TableOk_L2_B at h
   refine wp_seq (wr (pN 3 k z fun a k=>nn (cI h k z (fun At h=>?_) fun At h=>?_)))
   · refine wp_skip (nm_then ?_)
     refine wp_seq (wp_block (wr (pN 1 k z fun a k=>nn (wp_block (c_loop (fun n a w=>∃ (Ad:Int),K 41 [(0,v2),(1,I Ab),(5,I Ac),(6,I Ad)] a ∧ St [] w0 w [] ∧ d_spec_TableOk_L1 fu (d_spec_TableOk_L2 fu Ae Ab Ah) Ae Ab Ac n Ad = some r) ?_ ?_ fu _ _ ?_)))))
     · rintro a w ⟨_,_,_,h⟩
       exact nS h
     · rintro Aj a Be ⟨Ad,k,m,h⟩
       rw [d_spec_TableOk_L1_s] at h
       unfold d_spec_TableOk_L1_B at h
       refine wp_seq (wr (pN 3 k z fun a k=>nn (cI h k z (fun Am h=>?_) fun Am h=>?_)))
       · refine wp_skip (nm_then ?_)
         refine c_cut (fun a w=>K 41 [(0,v2),(1,I Ab),(5,I Ac),(6,I Ad)] a ∧ St [] w0 w [] ∧ d_spec_TableOk_J1 fu (d_spec_TableOk_L1 fu (d_spec_TableOk_L2 fu Ae Ab Ah) Ae Ab Ac Aj) Ad = some r) ?_ ?_
         · rintro a Bh ⟨k,m,h⟩
           unfold d_spec_TableOk_J1 at h
           refine wp_region_lit (pN 3 k z fun a k=>nn ?_)
           exact ⟨w64 (Ad + 1),k.keep [0,1,5,6] z,m.sel [] z (by decide),h⟩
         refine wp_block (wr (pN 4 k z fun a k=>bsplit (Ac == Ad) (fun Ag=>?_) (fun Ag=>?_)))
         · have h:=bif_t Ag h
           refine rB k 23 z Ag fun k=>pN 3 k z fun a k=>oE h fun As Ap h=>cE k m call177 z z z (c_spec_Beside fu _ _ _ (Enc.rd_agr Aa (m.a00 (Enc.rd_lt Aa))) Ap) fun Ax e a k m=>pN 3 k z fun a k=>bsplit (!As) (fun Af=>?_) (fun Af=>?_)
           · have h:=bif_t Af h
             refine rB k 30 z Af fun k=>pN 10 k z fun a k=>nn (wp_cond_true (k.ev z) (wr (pN 1 k z fun a k=>?_)))
             have k:=k.keep [4] z
             refine nn (wp_ret (rt_block (rt_then (rt_then (rt_block (rt_block (rt_then (rt_then (rt_block (rt_then ?_))))))))))
             refine fS h k m z z
           have h:=bif_f Af h
           refine rB k 30 z Af fun k=>pN 3 k z fun a k=>oE h fun Aw Al h=>cE k m call177 z z z (c_spec_Beside fu _ _ _ (Enc.rd_agr Aa (m.a00 (Enc.rd_lt Aa))) Al) fun Bc e a k m=>pN 3 k z fun a k=>oE h fun Ba Au h=>cE k m call177 z z z (c_spec_Beside fu _ _ _ (Enc.rd_agr Aa (m.a00 (Enc.rd_lt Aa))) Au) fun Bd e a k m=>sv k z (r_neb k underlying4 z z z) fun a k=>pN 1 k z fun a k=>nn (cI h k z (fun Ao h=>?_) fun Ao h=>?_)
           · refine wr (pN 1 k z fun a k=>?_)
             have k:=k.keep [4] z
             refine nn (wp_ret (rt_block (rt_then (rt_then (rt_block (rt_block (rt_then (rt_then (rt_block (rt_then ?_))))))))))
             refine fS h k m z z
           refine wp_skip (nm_block (nm_then ?_))
           exact ⟨k.keep [0,1,5,6] z,m.sel [] z (by decide),h⟩
         have h:=bif_f Ag h
         refine rB k 23 z Ag fun k=>pN 10 k z fun a k=>oE h fun Bg Av h=>cE k m call177 z z z (c_spec_Beside fu _ _ _ (Enc.rd_agr Aa (m.a00 (Enc.rd_lt Aa))) Av) fun Az e a k m=>pN 3 k z fun a k=>oE h fun Bb Ak h=>cE k m call177 z z z (c_spec_Beside fu _ _ _ (Enc.rd_agr Aa (m.a00 (Enc.rd_lt Aa))) Ak) fun Ay e a k m=>sv k z (r_neb k underlying4 z z z) fun a k=>pN 1 k z fun a k=>nn (cI h k z (fun Aq h=>?_) fun Aq h=>?_)
         · refine wr (pN 1 k z fun a k=>?_)
           have k:=k.keep [4] z
           refine nn (wp_ret (rt_block (rt_then (rt_then (rt_block (rt_block (rt_then (rt_then (rt_block (rt_then ?_))))))))))
           refine fS h k m z z
         refine wp_skip (nm_block (nm_then ?_))
         exact ⟨k.keep [0,1,5,6] z,m.sel [] z (by decide),h⟩
       refine wp_exit (ex_then (ex_then (ex_same (nm_block (nm_then ?_)))))
       refine wp_region_lit (pN 3 k z fun a k=>nn ?_)
       exact ⟨w64 (Ac + 1),k.keep [0,1,5] z,m.sel [] z (by decide),h⟩
     exact ⟨0,k.keep [0,1,5,6] z,m.sel [] z (by decide),h⟩
   refine wp_exit (ex_then (ex_then (ex_same (nm_then ?_))))
   refine wr (pN 1 k z fun a k=>nn (wp_ret (fS h k m z z)))
 exact ⟨0,k.keep [0,1,5] z,m.sel [] z (by decide),h⟩
theorem c_spec_l1Places (fu:Nat) {w0:World} (n1:Int)  {r:(List Int)}
    (h:d_spec_l1Places fu n1 = some r) :
    Calls Tryz.prog 176 #[I n1] w0 fun e w=>∃ (v0:Value) (G0:List Nat),e = .returned (v0) ∧ Ext [] w0 w ∧ ow w G0 [v0] r ∧ (∀ b ∈ G0,w0.heap.size ≤ b):=by
 refine enter (vs:=[_]) func176 z ntmps176 z fun a k=>?_
 have m:=St.start w0
 unfold d_spec_l1Places at h
 refine wr (pN 1 k z fun a k=>nn (wr (s_bs (cs:=[]) (ps:=[]) te63 m k z z z z z z z (by decide) z (by exact (List.forall_mem_nil _)) fun g2 w3 e5 a k m e Aq=>?_)))
 have Ak:=ow_bx Aq ([]:List Int) z z z
 refine pN 1 k z fun a k=>nn (wp_seq (wr (pN 1 k z fun a k=>nn (wp_block (c_loop (fun n a w=>∃ (Ad:List Int) (Ac:Value) (Ab:List Nat) (Ae:World) (Aa:Int),K 16 [(0,I n1),(3,Ac),(4,I Aa)] a ∧ St [] w0 w [(Ab,Ae)] ∧ ow Ae Ab [Ac] Ad ∧ d_spec_l1Places_L1 fu n1 n Ad Aa = some r) ?_ ?_ fu _ _ ?_)))))
 · rintro a w ⟨_,_,_,_,_,_,_,_,h⟩
   exact nS h
 · rintro Au a Av ⟨Ad,Ac,Ab,Ae,Aa,k,m,Af,h⟩
   rw [d_spec_l1Places_L1_s] at h
   unfold d_spec_l1Places_L1_B at h
   refine wp_seq (wr (pN 3 k z fun a k=>nn (cI h k z (fun Ao h=>?_) fun Ao h=>?_)))
   · refine wp_skip (nm_then ?_)
     refine wp_seq (wp_block (wp_region_lit (pN 2 k z fun a k=>s_bs (cs:=[I Aa]) (ps:=[(0,.tmp 12)]) te63 m k z z z z z z z (by decide) z (by exact (List.forall_mem_cons.2 ⟨z,(List.forall_mem_nil _)⟩)) fun At Aw As a k m e Ap=>?_)))
     have Am:=ow_bx Ap ([Aa]:List Int) z z z
     refine oE h fun Aj Ah h=>s_appF Ah te63 z m 1 Af (News.rd (Enc.rd_agr (Enc.ow_rd Am) (m.a 0 z))) z z k z z z z z z z fun Ai Ar Al a k e m Ag=>pN 1 k z fun a k=>wpList_nil (nm_block (nm_then ?_))
     refine wp_region_lit (pN 3 k z fun a k=>nn ?_)
     exact ⟨Aj,Ai,Ar,Al,w64 (Aa + 1),k.keep [0,3,4] z,m.sel [1] z (by decide),Ag,h⟩
   refine wp_exit (ex_then (ex_then (ex_same (nm_then ?_))))
   refine wr (pN 2 k z fun a k=>nn (wp_ret ?_))
   cases h
   exact finR1 k z (RV.tmp k z) ⟨_,Ab,z,m.ext,(Enc.ow_agr Af (m.a 0 z)),(m.fresh 0 z)⟩
 exact ⟨([]:List Int),(.slice (some ⟨g2,0,none⟩) 0 0),[g2],w3,0,k.keep [0,3,4] z,m.sel [0] z (by decide),Ak,h⟩
theorem c_spec_l1Merge_R (fu:Nat):∀ (nr:Nat) {w0:World} (Ao:List Int) (Ba:List Int) (Ai:Bool) {v2:Value} {F3:List Nat} (Aa:rd w0 F3 [v2] Ao) {v6:Value} {F7:List Nat} (Ak:rd w0 F7 [v6] Ba) {r:(List Int)} (h:d_spec_l1Merge_R fu nr Ao Ba Ai = some r),Calls Tryz.prog 265 #[v2,v6,.bool (Ai)] w0 fun e w=>∃ (v0:Value) (G0:List Nat),e = .returned (v0) ∧ Ext [] w0 w ∧ ow w G0 [v0] r ∧ (∀ b ∈ G0,w0.heap.size ≤ b):=by
 intro nr
 induction nr with
 | zero =>
   intros
   rename_i h
   exact nS h
 | succ nr ih =>
 intro w0 Ao Ba Ai v2 F3 Aa v6 F7 Ak r h
 refine enter (vs:=[_,_,_]) func265 z ntmps265 z fun a k=>?_
 have m:=St.start w0
 rw [d_spec_l1Merge_Rs] at h
 unfold d_spec_l1Merge_RB at h
 refine wr (pN 1 k z fun a k=>nn (wp_seq (wr (pN 1 k z fun a k=>sv k z (r_len (α:=Int) Ak k underlying63 z z) fun a k=>pN 1 k z fun a k=>nn (cI h k z (fun Br h=>?_) fun Br h=>?_)))))
 · refine wr (s_bs (cs:=[]) (ps:=[]) te63 m k z z z z z z z (by decide) z (by exact (List.forall_mem_nil _)) fun Hw Hr Fi a k m e Ei=>?_)
   have Dz:=ow_bx Ei ([]:List Int) z z z
   refine pN 1 k z fun a k=>oE h fun Hm Ca h=>s_appF Ca te63 z m 0 Dz (News.rd (Enc.rd_agr Ak (m.a00 (Enc.rd_lt Ak)))) z z k z z z z z z z fun Gq Dk Fu a k e m Df=>pN 1 k z fun a k=>nn (wp_ret (rt_then ?_))
   cases h
   exact finR1 k z (RV.tmp k z) ⟨_,Dk,z,m.ext,(Enc.ow_agr Df (m.a 0 z)),(m.fresh 0 z)⟩
 refine wp_skip (nm_then ?_)
 refine wr (pN 1 k z fun a k=>sv k z (r_len (α:=Int) Ak k underlying63 z z) fun a k=>pN 2 k z fun a k=>nn (wr (pN 3 k z fun a k=>oE h fun Gc Cd h=>s_slTo Ak Cd k ts63 z z z z z z fun Gf a k Bk=>pN 1 k z fun a k=>oE h fun Az Dr h=>s_call k call265 z z z z z (ih _ _ _ (Enc.rd_agr Aa (m.a00 (Enc.rd_lt Aa))) (Enc.rd_agr Bk (m.a00 (Enc.rd_lt Bk))) Dr) fun He Bl hR=>?_)))
 obtain ⟨Bm,Be,rfl,e,Ab,Fg⟩:=hR
 refine ⟨_,z,fun a k=>?_⟩
 have m:=m.new e Be (fun b hb=>⟨Fg b hb,Enc.rd_lt (Enc.ow_rd Ab) b hb⟩) (Enc.ow_nd Ab)
 refine pN 1 k z fun a k=>nn (wr (pN 3 k z fun a k=>oE h fun Gg Eu h=>s_slFrom Ak Eu k ts63 z z z z z z fun Gx a k Bh=>pN 1 k z fun a k=>oE h fun Bb Cl h=>s_call k call265 z z z z z (ih _ _ _ (Enc.rd_agr Aa (m.a00 (Enc.rd_lt Aa))) (Enc.rd_agr Bh (m.a00 (Enc.rd_lt Bh))) Cl) fun Gr Bg hR=>?_))
 obtain ⟨Bn,Bc,rfl,e,Ac,Cy⟩:=hR
 refine ⟨_,z,fun a k=>?_⟩
 have m:=m.new e Bc (fun b hb=>⟨Cy b hb,Enc.rd_lt (Enc.ow_rd Ac) b hb⟩) (Enc.ow_nd Ac)
 refine pN 1 k z fun a k=>nn (wr (s_bs (cs:=[]) (ps:=[]) te63 m k z z z z z z z (by decide) z (by exact (List.forall_mem_nil _)) fun Bj Ds Hx a k m e Dl=>?_))
 have Dn:=ow_bx Dl ([]:List Int) z z z
 refine pN 1 k z fun a k=>nn (wr (pN 1 k z fun a k=>?_))
 have k:=k.keep [0,2,8,9,10,11] z
 refine nn (wr (pN 1 k z fun a k=>nn (wp_seq (wp_block (c_loop (fun n a w=>∃ (Ax:List Int) (Aw:Value) (As:List Nat) (Ay:World) (Ad:Int) (Ae:Int),K 132 [(0,v2),(2,.bool (Ai)),(8,Bm),(9,Bn),(10,Aw),(11,I Ad),(12,I Ae)] a ∧ St [] w0 w [(Be,Bl),(Bc,Bg),(As,Ay)] ∧ ow Ay As [Aw] Ax ∧ d_spec_l1Merge_L1 fu Ao Ai Az Bb n Ax Ad Ae = some r) ?_ ?_ fu _ _ ?_)))))
 · rintro a w ⟨_,_,_,_,_,_,_,_,_,h⟩
   exact nS h
 · rintro Fc a Gp ⟨Ax,Aw,As,Ay,Ad,Ae,k,m,Ah,h⟩
   rw [d_spec_l1Merge_L1_s] at h
   unfold d_spec_l1Merge_L1_B at h
   refine c_cut (fun a w=>K 132 [(0,v2),(2,.bool (Ai)),(8,Bm),(9,Bn),(10,Aw),(11,I Ad),(12,I Ae)] a ∧ St [] w0 w [(Be,Bl),(Bc,Bg),(As,Ay)] ∧ d_spec_l1Merge_J1 fu (d_spec_l1Merge_L1 fu Ao Ai Az Bb Fc) Ao Ai Az Bb Ax Ad Ae = some r) ?_ ?_
   · rintro a Ho ⟨k,m,h⟩
     unfold d_spec_l1Merge_J1 at h
     refine wp_block (wp_block (wr (pN 2 k z fun a k=>sv k z (r_len (α:=Int) (Enc.ow_rd Ac) k underlying63 z z) fun a k=>pN 2 k z fun a k=>nn (cI h k z (fun Cv h=>?_) fun Cv h=>?_))))
     · refine wr (pN 3 k z fun a k=>oE h fun Bi Bq h=>sv k z (r_ixa (Enc.ow_rd Ab) Bq k ts63 z z z) fun a k=>sv k z (r_lde1 (Enc.ow_rd Ab) (m.a 0 z) Bq 0 t13 k z z z z) fun a k=>s_bs (cs:=[I Bi]) (ps:=[(0,.tmp 63)]) te63 m k z z z z z z z (by decide) z (by exact (List.forall_mem_cons.2 ⟨z,(List.forall_mem_nil _)⟩)) fun Gl Gi Fv a k m e Bu=>?_)
       have Ck:=ow_bx Bu ([Bi]:List Int) z z z
       refine oE h fun Bs Ci h=>s_appF Ci te63 z m 3 Ah (News.rd (Enc.rd_agr (Enc.ow_rd Ck) (m.a 0 z))) z z k z z z z z z z fun Cg Cb Dp a k e m Bx=>pN 1 k z fun a k=>nn (wp_region_lit (pN 3 k z fun a k=>wpList_nil (nm_block (nm_block (nm_then ?_)))))
       exact ⟨Bs,Cg,Cb,Dp,w64 (Ad + 1),Ae,k.keep [0,2,8,9,10,11,12] z,m.sel [1,2,3] z (by decide),Bx,h⟩
     refine wr (pN 2 k z fun a k=>sv k z (r_len (α:=Int) (Enc.ow_rd Ab) k underlying63 z z) fun a k=>pN 2 k z fun a k=>nn (cI h k z (fun By h=>?_) fun By h=>?_))
     · refine wr (pN 3 k z fun a k=>oE h fun Bp Bo h=>sv k z (r_ixa (Enc.ow_rd Ac) Bo k ts63 z z z) fun a k=>sv k z (r_lde1 (Enc.ow_rd Ac) (m.a 1 z) Bo 0 t13 k z z z z) fun a k=>s_bs (cs:=[I Bp]) (ps:=[(0,.tmp 77)]) te63 m k z z z z z z z (by decide) z (by exact (List.forall_mem_cons.2 ⟨z,(List.forall_mem_nil _)⟩)) fun Fn Hb Gt a k m e Co=>?_)
       have Ef:=ow_bx Co ([Bp]:List Int) z z z
       refine oE h fun Ev Ey h=>s_appF Ey te63 z m 3 Ah (News.rd (Enc.rd_agr (Enc.ow_rd Ef) (m.a 0 z))) z z k z z z z z z z fun Cj Dg Di a k e m Dj=>pN 1 k z fun a k=>nn (wp_region_lit (pN 3 k z fun a k=>wpList_nil (nm_block (nm_block (nm_then ?_)))))
       exact ⟨Ev,Cj,Dg,Di,Ad,w64 (Ae + 1),k.keep [0,2,8,9,10,11,12] z,m.sel [1,2,3] z (by decide),Dj,h⟩
     refine wp_seq (d_go [] mixo m z fun Fh hMd=>?_)
     have m:=hMd
     have s:=Ext.refl ([]:List Nat) Fh
     refine dN [0,1,2,7,8,9] 6 z k (by kernel_rfl) z s (fun _ _ _ _ _=>id) fun a k=>oE h fun Am Ag h=>dt k 3 z (by kernel_rfl) z s (fun _ _ _=>id) (fun w s=>r_ixa (Enc.ow_rd Ac) Ag k ts63 z z z) fun a k=>dt k 4 z (by kernel_rfl) z s (fun _ _ _=>id) (fun w s=>r_lde1 (Enc.ow_rd Ac) ((hMd.step s).a 1 z) Ag 0 t13 k z z z z) fun a k=>oE h fun Bf Ap h=>dt k 5 z (by kernel_rfl) z s (fun _ _ _=>id) (fun w s=>r_ixa Aa Ap k ts63 z z z) fun a k=>dt k 6 z (by kernel_rfl) z s (fun _ _ _=>id) (fun w s=>r_lde1 Aa ((hMd.step s).a00 (Enc.rd_lt Aa)) Ap 0 t13 k z z z z) fun a k=>oE h fun Aj Af h=>dt k 10 z (by kernel_rfl) z s (fun _ _ _=>id) (fun w s=>r_ixa (Enc.ow_rd Ab) Af k ts63 z z z) fun a k=>?_
     refine dt k 11 z (by kernel_rfl) z s (fun _ _ _=>id) (fun w s=>r_lde1 (Enc.ow_rd Ab) ((hMd.step s).a 0 z) Af 0 t13 k z z z z) fun a k=>oE h fun Bd Al h=>dt k 12 z (by kernel_rfl) z s (fun _ _ _=>id) (fun w s=>r_ixa Aa Al k ts63 z z z) fun a k=>dt k 13 z (by kernel_rfl) z s (fun _ _ _=>id) (fun w s=>r_lde1 Aa ((hMd.step s).a00 (Enc.rd_lt Aa)) Al 0 t13 k z z z z) fun a k=>dN [14,15] 2 z k (by kernel_rfl) z s (fun _ _ _ _ _=>id) fun a k=>bsplit (decide (Bf < Bd)) (fun Aq=>?_) (fun Aq=>?_)
     · have h:=bif_t Aq h
       refine rB k 98 z Aq fun k=>dN [16,17,18,19] 4 z k (by kernel_rfl) z s (fun _ _ _ _ _=>id) fun a k=>bsplit (!Ai) (fun At=>?_) (fun At=>?_)
       · have h:=bif_t At h
         refine rB k 102 z At fun k=>dN [20,21,22,23,24,25,26,27,28,29,30,31,32,33,34,35,36,37,38,39] 20 z k (by kernel_rfl) z s (fun _ _ _ _ _=>id) fun a k=>d_done (by kernel_rfl) ?_
         have k:=k.keep [0,2,8,9,10,11,12,82] z
         refine (nm_then ?_)
         refine wp_cond_true (k.ev z) (wr (pN 3 k z fun a k=>oE h fun Ht Gd h=>sv k z (r_ixa (Enc.ow_rd Ac) Ag k ts63 z z z) fun a k=>sv k z (r_lde1 (Enc.ow_rd Ac) (m.a 1 z) Ag 0 t13 k z z z z) fun a k=>s_bs (cs:=[I Am]) (ps:=[(0,.tmp 126)]) te63 m k z z z z z z z (by decide) z (by exact (List.forall_mem_cons.2 ⟨z,(List.forall_mem_nil _)⟩)) fun Hi Ge Gm a k m e Dt=>?_))
         have Cw:=ow_bx Dt ([Am]:List Int) z z z
         refine oE h fun Cq Cs h=>s_appF Cs te63 z m 3 Ah (News.rd (Enc.rd_agr (Enc.ow_rd Cw) (m.a 0 z))) z z k z z z z z z z fun Cf Eh Eg a k e m Dv=>pN 1 k z fun a k=>nn (wp_region_lit (pN 3 k z fun a k=>wpList_nil (nm_block (nm_block (nm_then ?_)))))
         exact ⟨Cq,Cf,Eh,Eg,Ad,w64 (Ae + 1),k.keep [0,2,8,9,10,11,12] z,m.sel [1,2,3] z (by decide),Dv,h⟩
       have h:=bif_f At h
       refine rB k 102 z At fun k=>dN [20,21,22,27,28,29] 6 z k (by kernel_rfl) z s (fun _ _ _ _ _=>id) fun a k=>oE h fun Hk Hg h=>dt k 23 z (by kernel_rfl) z s (fun _ _ _=>id) (fun w s=>r_ixa (Enc.ow_rd Ac) Ag k ts63 z z z) fun a k=>dt k 24 z (by kernel_rfl) z s (fun _ _ _=>id) (fun w s=>r_lde1 (Enc.ow_rd Ac) ((hMd.step s).a 1 z) Ag 0 t13 k z z z z) fun a k=>oE h fun Fx Gw h=>dt k 25 z (by kernel_rfl) z s (fun _ _ _=>id) (fun w s=>r_ixa Aa Ap k ts63 z z z) fun a k=>dt k 26 z (by kernel_rfl) z s (fun _ _ _=>id) (fun w s=>r_lde1 Aa ((hMd.step s).a00 (Enc.rd_lt Aa)) Ap 0 t13 k z z z z) fun a k=>oE h fun If Fq h=>?_
       refine dt k 30 z (by kernel_rfl) z s (fun _ _ _=>id) (fun w s=>r_ixa (Enc.ow_rd Ab) Af k ts63 z z z) fun a k=>dt k 31 z (by kernel_rfl) z s (fun _ _ _=>id) (fun w s=>r_lde1 (Enc.ow_rd Ab) ((hMd.step s).a 0 z) Af 0 t13 k z z z z) fun a k=>oE h fun Gn Fr h=>dt k 32 z (by kernel_rfl) z s (fun _ _ _=>id) (fun w s=>r_ixa Aa Al k ts63 z z z) fun a k=>dt k 33 z (by kernel_rfl) z s (fun _ _ _=>id) (fun w s=>r_lde1 Aa ((hMd.step s).a00 (Enc.rd_lt Aa)) Al 0 t13 k z z z z) fun a k=>dN [34,35] 2 z k (by kernel_rfl) z s (fun _ _ _ _ _=>id) fun a k=>bsplit (decide (Bf > Bd)) (fun Au=>?_) (fun Au=>?_)
       · have h:=bif_t Au h
         refine rB k 118 z Au fun k=>dN [36,37,38,39] 4 z k (by kernel_rfl) z s (fun _ _ _ _ _=>id) fun a k=>d_done (by kernel_rfl) ?_
         have k:=k.keep [0,2,8,9,10,11,12,82] z
         refine (nm_then ?_)
         refine cI h k z (fun Eo h=>?_) fun Eo h=>?_
         · refine wr (pN 3 k z fun a k=>oE h fun Ha Gh h=>sv k z (r_ixa (Enc.ow_rd Ac) Ag k ts63 z z z) fun a k=>sv k z (r_lde1 (Enc.ow_rd Ac) (m.a 1 z) Ag 0 t13 k z z z z) fun a k=>s_bs (cs:=[I Am]) (ps:=[(0,.tmp 126)]) te63 m k z z z z z z z (by decide) z (by exact (List.forall_mem_cons.2 ⟨z,(List.forall_mem_nil _)⟩)) fun Gj Hq Ga a k m e Dh=>?_)
           have Cx:=ow_bx Dh ([Am]:List Int) z z z
           refine oE h fun Dx Do h=>s_appF Do te63 z m 3 Ah (News.rd (Enc.rd_agr (Enc.ow_rd Cx) (m.a 0 z))) z z k z z z z z z z fun Fa El Bt a k e m Db=>pN 1 k z fun a k=>nn (wp_region_lit (pN 3 k z fun a k=>wpList_nil (nm_block (nm_block (nm_then ?_)))))
           exact ⟨Dx,Fa,El,Bt,Ad,w64 (Ae + 1),k.keep [0,2,8,9,10,11,12] z,m.sel [1,2,3] z (by decide),Db,h⟩
         refine wr (pN 3 k z fun a k=>oE h fun Hj Hl h=>sv k z (r_ixa (Enc.ow_rd Ab) Af k ts63 z z z) fun a k=>sv k z (r_lde1 (Enc.ow_rd Ab) (m.a 0 z) Af 0 t13 k z z z z) fun a k=>s_bs (cs:=[I Aj]) (ps:=[(0,.tmp 49)]) te63 m k z z z z z z z (by decide) z (by exact (List.forall_mem_cons.2 ⟨z,(List.forall_mem_nil _)⟩)) fun Hp Fw Hv a k m e Cm=>?_)
         have Ch:=ow_bx Cm ([Aj]:List Int) z z z
         refine oE h fun Fd Dw h=>s_appF Dw te63 z m 3 Ah (News.rd (Enc.rd_agr (Enc.ow_rd Ch) (m.a 0 z))) z z k z z z z z z z fun Ej En Ec a k e m Dc=>pN 1 k z fun a k=>nn (wp_region_lit (pN 3 k z fun a k=>wpList_nil (nm_block (nm_block (nm_then ?_)))))
         exact ⟨Fd,Ej,En,Ec,w64 (Ad + 1),Ae,k.keep [0,2,8,9,10,11,12] z,m.sel [1,2,3] z (by decide),Dc,h⟩
       have h:=bif_f Au h
       refine rB k 118 z Au fun k=>dN [36,37,38,39] 4 z k (by kernel_rfl) z s (fun _ _ _ _ _=>id) fun a k=>d_done (by kernel_rfl) ?_
       have k:=k.keep [0,2,8,9,10,11,12,82] z
       refine (nm_then ?_)
       refine wp_cond_false (k.ev z) (wr (pN 3 k z fun a k=>oE h fun Gk Gu h=>sv k z (r_ixa (Enc.ow_rd Ab) Af k ts63 z z z) fun a k=>sv k z (r_lde1 (Enc.ow_rd Ab) (m.a 0 z) Af 0 t13 k z z z z) fun a k=>s_bs (cs:=[I Aj]) (ps:=[(0,.tmp 49)]) te63 m k z z z z z z z (by decide) z (by exact (List.forall_mem_cons.2 ⟨z,(List.forall_mem_nil _)⟩)) fun Fz Hy Gv a k m e Cp=>?_))
       have Ct:=ow_bx Cp ([Aj]:List Int) z z z
       refine oE h fun Ez Dy h=>s_appF Dy te63 z m 3 Ah (News.rd (Enc.rd_agr (Enc.ow_rd Ct) (m.a 0 z))) z z k z z z z z z z fun Ex Es Em a k e m Bz=>pN 1 k z fun a k=>nn (wp_region_lit (pN 3 k z fun a k=>wpList_nil (nm_block (nm_block (nm_then ?_)))))
       exact ⟨Ez,Ex,Es,Em,w64 (Ad + 1),Ae,k.keep [0,2,8,9,10,11,12] z,m.sel [1,2,3] z (by decide),Bz,h⟩
     have h:=bif_f Aq h
     refine rB k 98 z Aq fun k=>dN [16,17,18,19,20,21,22,27,28,29] 10 z k (by kernel_rfl) z s (fun _ _ _ _ _=>id) fun a k=>oE h fun Id Ia h=>dt k 23 z (by kernel_rfl) z s (fun _ _ _=>id) (fun w s=>r_ixa (Enc.ow_rd Ac) Ag k ts63 z z z) fun a k=>dt k 24 z (by kernel_rfl) z s (fun _ _ _=>id) (fun w s=>r_lde1 (Enc.ow_rd Ac) ((hMd.step s).a 1 z) Ag 0 t13 k z z z z) fun a k=>oE h fun Ft Ic h=>dt k 25 z (by kernel_rfl) z s (fun _ _ _=>id) (fun w s=>r_ixa Aa Ap k ts63 z z z) fun a k=>dt k 26 z (by kernel_rfl) z s (fun _ _ _=>id) (fun w s=>r_lde1 Aa ((hMd.step s).a00 (Enc.rd_lt Aa)) Ap 0 t13 k z z z z) fun a k=>oE h fun Fk Fp h=>?_
     refine dt k 30 z (by kernel_rfl) z s (fun _ _ _=>id) (fun w s=>r_ixa (Enc.ow_rd Ab) Af k ts63 z z z) fun a k=>dt k 31 z (by kernel_rfl) z s (fun _ _ _=>id) (fun w s=>r_lde1 (Enc.ow_rd Ab) ((hMd.step s).a 0 z) Af 0 t13 k z z z z) fun a k=>oE h fun Hu Gz h=>dt k 32 z (by kernel_rfl) z s (fun _ _ _=>id) (fun w s=>r_ixa Aa Al k ts63 z z z) fun a k=>dt k 33 z (by kernel_rfl) z s (fun _ _ _=>id) (fun w s=>r_lde1 Aa ((hMd.step s).a00 (Enc.rd_lt Aa)) Al 0 t13 k z z z z) fun a k=>dN [34,35] 2 z k (by kernel_rfl) z s (fun _ _ _ _ _=>id) fun a k=>bsplit (decide (Bf > Bd)) (fun Av=>?_) (fun Av=>?_)
     · have h:=bif_t Av h
       refine rB k 118 z Av fun k=>dN [36,37,38,39] 4 z k (by kernel_rfl) z s (fun _ _ _ _ _=>id) fun a k=>d_done (by kernel_rfl) ?_
       have k:=k.keep [0,2,8,9,10,11,12,82] z
       refine (nm_then ?_)
       refine cI h k z (fun Fe h=>?_) fun Fe h=>?_
       · refine wr (pN 3 k z fun a k=>oE h fun Hn Hd h=>sv k z (r_ixa (Enc.ow_rd Ac) Ag k ts63 z z z) fun a k=>sv k z (r_lde1 (Enc.ow_rd Ac) (m.a 1 z) Ag 0 t13 k z z z z) fun a k=>s_bs (cs:=[I Am]) (ps:=[(0,.tmp 126)]) te63 m k z z z z z z z (by decide) z (by exact (List.forall_mem_cons.2 ⟨z,(List.forall_mem_nil _)⟩)) fun Hh Hf Fm a k m e Dm=>?_)
         have Ff:=ow_bx Dm ([Am]:List Int) z z z
         refine oE h fun Cu Da h=>s_appF Da te63 z m 3 Ah (News.rd (Enc.rd_agr (Enc.ow_rd Ff) (m.a 0 z))) z z k z z z z z z z fun Fb Ek Bw a k e m Et=>pN 1 k z fun a k=>nn (wp_region_lit (pN 3 k z fun a k=>wpList_nil (nm_block (nm_block (nm_then ?_)))))
         exact ⟨Cu,Fb,Ek,Bw,Ad,w64 (Ae + 1),k.keep [0,2,8,9,10,11,12] z,m.sel [1,2,3] z (by decide),Et,h⟩
       refine wr (pN 3 k z fun a k=>oE h fun Fs Gb h=>sv k z (r_ixa (Enc.ow_rd Ab) Af k ts63 z z z) fun a k=>sv k z (r_lde1 (Enc.ow_rd Ab) (m.a 0 z) Af 0 t13 k z z z z) fun a k=>s_bs (cs:=[I Aj]) (ps:=[(0,.tmp 49)]) te63 m k z z z z z z z (by decide) z (by exact (List.forall_mem_cons.2 ⟨z,(List.forall_mem_nil _)⟩)) fun Gy Fy Ie a k m e Er=>?_)
       have Ed:=ow_bx Er ([Aj]:List Int) z z z
       refine oE h fun Ew Dd h=>s_appF Dd te63 z m 3 Ah (News.rd (Enc.rd_agr (Enc.ow_rd Ed) (m.a 0 z))) z z k z z z z z z z fun Cr Dq De a k e m Du=>pN 1 k z fun a k=>nn (wp_region_lit (pN 3 k z fun a k=>wpList_nil (nm_block (nm_block (nm_then ?_)))))
       exact ⟨Ew,Cr,Dq,De,w64 (Ad + 1),Ae,k.keep [0,2,8,9,10,11,12] z,m.sel [1,2,3] z (by decide),Du,h⟩
     have h:=bif_f Av h
     refine rB k 118 z Av fun k=>dN [36,37,38,39] 4 z k (by kernel_rfl) z s (fun _ _ _ _ _=>id) fun a k=>d_done (by kernel_rfl) ?_
     have k:=k.keep [0,2,8,9,10,11,12,82] z
     refine (nm_then ?_)
     refine wp_cond_false (k.ev z) (wr (pN 3 k z fun a k=>oE h fun Hc Hz h=>sv k z (r_ixa (Enc.ow_rd Ab) Af k ts63 z z z) fun a k=>sv k z (r_lde1 (Enc.ow_rd Ab) (m.a 0 z) Af 0 t13 k z z z z) fun a k=>s_bs (cs:=[I Aj]) (ps:=[(0,.tmp 49)]) te63 m k z z z z z z z (by decide) z (by exact (List.forall_mem_cons.2 ⟨z,(List.forall_mem_nil _)⟩)) fun Fl Fj Ib a k m e Ee=>?_))
     have Cz:=ow_bx Ee ([Aj]:List Int) z z z
     refine oE h fun Ce Cc h=>s_appF Cc te63 z m 3 Ah (News.rd (Enc.rd_agr (Enc.ow_rd Cz) (m.a 0 z))) z z k z z z z z z z fun Eb Ea Bv a k e m Cn=>pN 1 k z fun a k=>nn (wp_region_lit (pN 3 k z fun a k=>wpList_nil (nm_block (nm_block (nm_then ?_)))))
     exact ⟨Ce,Eb,Ea,Bv,w64 (Ad + 1),Ae,k.keep [0,2,8,9,10,11,12] z,m.sel [1,2,3] z (by decide),Cn,h⟩
   refine wr (pN 2 k z fun a k=>sv k z (r_len (α:=Int) (Enc.ow_rd Ab) k underlying63 z z) fun a k=>pN 2 k z fun a k=>bsplit (decide (Ad < ((Az.length:Int)))) (fun Ar=>?_) (fun Ar=>?_))
   · have h:=bif_t Ar h
     refine rB k 39 z Ar fun k=>pN 5 k z fun a k=>nn (wp_cond_true (k.ev z) (wp_skip (nm_then ?_)))
     exact ⟨k.keep [0,2,8,9,10,11,12] z,m.sel [0,1,2] z (by decide),h⟩
   have h:=bif_f Ar h
   refine rB k 39 z Ar fun k=>pN 2 k z fun a k=>sv k z (r_len (α:=Int) (Enc.ow_rd Ac) k underlying63 z z) fun a k=>pN 2 k z fun a k=>nn (cI h k z (fun Ep h=>?_) fun Ep h=>?_)
   · refine wp_skip (nm_then ?_)
     exact ⟨k.keep [0,2,8,9,10,11,12] z,m.sel [0,1,2] z (by decide),h⟩
   refine wp_exit (ex_then (ex_then (ex_same (nm_then ?_))))
   refine wr (pN 2 k z fun a k=>nn (wp_ret ?_))
   cases h
   exact finR1 k z (RV.tmp k z) ⟨_,As,z,m.ext,(Enc.ow_agr Ah (m.a 2 z)),(m.fresh 2 z)⟩
 exact ⟨([]:List Int),(.slice (some ⟨Bj,0,none⟩) 0 0),[Bj],Ds,0,0,k.keep [0,2,8,9,10,11,12] z,m.sel [2,1,0] z (by decide),Dn,h⟩
theorem c_spec_l1Merge (fu:Nat) {w0:World} (Ac:List Int) (Aa:List Int) (Ab:Bool) {v2:Value} {F3:List Nat} (Ad:rd w0 F3 [v2] Ac) {v6:Value} {F7:List Nat} (Ae:rd w0 F7 [v6] Aa) {r:(List Int)}
    (h:d_spec_l1Merge fu Ac Aa Ab = some r):Calls Tryz.prog 265 #[v2,v6,.bool (Ab)] w0 fun e w=>∃ (v0:Value) (G0:List Nat),e = .returned (v0) ∧ Ext [] w0 w ∧ ow w G0 [v0] r ∧ (∀ b ∈ G0,w0.heap.size ≤ b) :=
  c_spec_l1Merge_R fu fu Ac Aa Ab Ad Ae h

theorem c_spec_SortUp (fu:Nat) {w0:World} (Ae:List Int) {v2:Value} {F3:List Nat} (Ab:rd w0 F3 [v2] Ae) {r:(List Int)}
    (h:d_spec_SortUp fu Ae = some r) :
    Calls Tryz.prog 205 #[v2] w0 fun e w=>∃ (v0:Value) (G0:List Nat),e = .returned (v0) ∧ Ext [] w0 w ∧ ow w G0 [v0] r ∧ (∀ b ∈ G0,w0.heap.size ≤ b):=by
 refine enter (vs:=[_]) func205 z ntmps205 z fun a k=>?_
 have m:=St.start w0
 unfold d_spec_SortUp at h
 refine wr (pN 1 k z fun a k=>nn (wr (pN 2 k z fun a k=>sv k z (r_len (α:=Int) Ab k underlying63 z z) fun a k=>oE h fun x5 Af h=>s_call k call176 z z z z z (c_spec_l1Places fu _  Af) fun e7 w9 hR=>?_)))
 obtain ⟨Am,Aj,rfl,e,Ac,Ai⟩:=hR
 refine ⟨_,z,fun a k=>?_⟩
 have m:=m.new e Aj (fun b hb=>⟨Ai b hb,Enc.rd_lt (Enc.ow_rd Ac) b hb⟩) (Enc.ow_nd Ac)
 refine oE h fun Al Ag h=>s_call k call265 z z z z z (c_spec_l1Merge fu _ _ _ (Enc.rd_agr Ab (m.a00 (Enc.rd_lt Ab))) (Enc.rd_agr (Enc.ow_rd Ac) (m.a 0 z)) Ag) fun Ap Ak hR=>?_
 obtain ⟨Ao,Ad,rfl,e,Aa,Ah⟩:=hR
 refine ⟨_,z,fun a k=>?_⟩
 have m:=m.new e Ad (fun b hb=>⟨Ah b hb,Enc.rd_lt (Enc.ow_rd Aa) b hb⟩) (Enc.ow_nd Aa)
 refine pN 1 k z fun a k=>nn (wp_ret ?_)
 cases h
 exact finR1 k z (RV.tmp k z) ⟨_,Ad,z,m.ext,(Enc.ow_agr Aa (m.a 0 z)),(m.fresh 0 z)⟩
theorem c_spec_l5Sides (fu:Nat) {w0:World} (Ac:Int) (h2:Int) (d3:Int)  {r:(List Int)}
    (h:d_spec_l5Sides fu Ac h2 d3 = some r) :
    Calls Tryz.prog 262 #[I Ac,I h2,I d3] w0 fun e w=>∃ (v0:Value) (G0:List Nat),e = .returned (v0) ∧ Ext [] w0 w ∧ ow w G0 [v0] r ∧ (∀ b ∈ G0,w0.heap.size ≤ b):=by
 refine enter (vs:=[_,_,_]) func262 z ntmps262 z fun a k=>?_
 have m:=St.start w0
 unfold d_spec_l5Sides at h
 refine wr (pN 1 k z fun a k=>nn (wr (pN 3 k z fun a k=>s_bs (cs:=[I Ac,I h2,I d3]) (ps:=[(0,.tmp 9),(1,.tmp 10),(2,.tmp 11)]) te63 m k z z z z z z z (by decide) z (by exact (List.forall_mem_cons.2 ⟨z,(List.forall_mem_cons.2 ⟨z,(List.forall_mem_cons.2 ⟨z,(List.forall_mem_nil _)⟩)⟩)⟩)) fun g4 w5 e7 a k m e Aq=>?_)))
 have Ab:=ow_bx Aq ([Ac,h2,d3]:List Int) z z z
 refine pN 1 k z fun a k=>nn (wr (pN 1 k z fun a k=>oE h fun x9 Ap h=>s_call k call205 z z z z z (c_spec_SortUp fu _ (Enc.rd_agr (Enc.ow_rd Ab) (m.a 0 z)) Ap) fun Bc Aw hR=>?_))
 obtain ⟨Be,At,rfl,e,Aa,Ao⟩:=hR
 refine ⟨_,z,fun a k=>?_⟩
 have m:=m.new e At (fun b hb=>⟨Ao b hb,Enc.rd_lt (Enc.ow_rd Aa) b hb⟩) (Enc.ow_nd Aa)
 refine pN 1 k z fun a k=>nn (wp_seq (d_go [] mixo m z fun As hMd=>?_))
 have m:=hMd
 have s:=Ext.refl ([]:List Nat) As
 refine dN [0,1,6,7,12,13] 6 z k (by kernel_rfl) z s (fun _ _ _ _ _=>id) fun a k=>oE h fun Ba Ag h=>dt k 2 z (by kernel_rfl) z s (fun _ _ _=>id) (fun w s=>r_ixa (Enc.ow_rd Aa) Ag k ts63 z z z) fun a k=>dt k 3 z (by kernel_rfl) z s (fun _ _ _=>id) (fun w s=>r_lde1 (Enc.ow_rd Aa) ((hMd.step s).a 0 z) Ag 0 t13 k z z z z) fun a k=>oE h fun Aj Ah h=>dt k 4 z (by kernel_rfl) z s (fun _ _ _=>id) (fun w s=>r_ixa (Enc.ow_rd Ab) Ah k ts63 z z z) fun a k=>dt k 5 z (by kernel_rfl) z s (fun _ _ _=>id) (fun w s=>r_lde1 (Enc.ow_rd Ab) ((hMd.step s).a 1 z) Ah 0 t13 k z z z z) fun a k=>oE h fun Ax Ad h=>dt k 8 z (by kernel_rfl) z s (fun _ _ _=>id) (fun w s=>r_ixa (Enc.ow_rd Aa) Ad k ts63 z z z) fun a k=>?_
 refine dt k 9 z (by kernel_rfl) z s (fun _ _ _=>id) (fun w s=>r_lde1 (Enc.ow_rd Aa) ((hMd.step s).a 0 z) Ad 0 t13 k z z z z) fun a k=>oE h fun Ak Al h=>dt k 10 z (by kernel_rfl) z s (fun _ _ _=>id) (fun w s=>r_ixa (Enc.ow_rd Ab) Al k ts63 z z z) fun a k=>dt k 11 z (by kernel_rfl) z s (fun _ _ _=>id) (fun w s=>r_lde1 (Enc.ow_rd Ab) ((hMd.step s).a 1 z) Al 0 t13 k z z z z) fun a k=>oE h fun Bb Ae h=>dt k 14 z (by kernel_rfl) z s (fun _ _ _=>id) (fun w s=>r_ixa (Enc.ow_rd Aa) Ae k ts63 z z z) fun a k=>dt k 15 z (by kernel_rfl) z s (fun _ _ _=>id) (fun w s=>r_lde1 (Enc.ow_rd Aa) ((hMd.step s).a 0 z) Ae 0 t13 k z z z z) fun a k=>oE h fun Af Ai h=>?_
 refine dt k 16 z (by kernel_rfl) z s (fun _ _ _=>id) (fun w s=>r_ixa (Enc.ow_rd Ab) Ai k ts63 z z z) fun a k=>dt k 17 z (by kernel_rfl) z s (fun _ _ _=>id) (fun w s=>r_lde1 (Enc.ow_rd Ab) ((hMd.step s).a 1 z) Ai 0 t13 k z z z z) fun a k=>d_one 18 (by kernel_rfl) z (s_bsN (cs:=[I Aj,I Ak,I Af]) (ps:=[(0,.tmp 20),(1,.tmp 26),(2,.tmp 32)]) te63 m k z z z z z z z (by decide) z (by exact (List.forall_mem_cons.2 ⟨z,(List.forall_mem_cons.2 ⟨z,(List.forall_mem_cons.2 ⟨z,(List.forall_mem_nil _)⟩)⟩)⟩)) fun Au Ay Az a k m e Am Ar=>?_)
 have Bd:=lo1 (Nat.le_trans s.size Ar)
 have Av:=ow_bx Am ([Aj,Ak,Af]:List Int) z z z
 have s:=s.trans e (by simp)
 refine wpList_nil ⟨s,?_⟩
 refine dN [19] 1 z k (by kernel_rfl) z s (fun _ _ _ _ _=>id) fun a k=>d_done (by kernel_rfl) ?_
 have k:=k.keep [6] z
 refine (nm_then ?_)
 refine wp_ret ?_
 cases h
 exact finR1 k z (RV.tmp k z) ⟨_,[Au],z,m.ext,(Enc.ow_agr Av (m.a 0 z)),(m.fresh 0 z)⟩
theorem c_spec_Fits (fu:Nat) {w0:World} (x1:Item) (t2:Typ)  {r:Bool}
    (h:d_spec_Fits fu x1 t2 = some r) :
    Calls Tryz.prog 190 #[.agg (Flat.e (x1)).toArray,.agg (Flat.e (t2)).toArray] w0 fun e w=>e = .returned (.bool (r)) ∧ Ext [] w0 w:=by
 refine enter (vs:=[_,_]) func190 z ntmps190 z fun a k=>?_
 have m:=St.start w0
 unfold d_spec_Fits at h
 refine wr (s_box (cs:=[I x1.fId,I x1.fW,I x1.fH,I x1.fD,I x1.fGram,I x1.fClass,I x1.fCount]) m k z z z z z z fun b3 w5 a k m e Ag=>s_box (cs:=[I t2.fId,I t2.fW,I t2.fH,I t2.fD,I t2.fTare,I t2.fGram,I t2.fCost]) m k z z z z z z fun b6 w9 a k m e Af=>pN 1 k z fun a k=>nn (wr (sv k z (r_fa fa158_1 k z z) fun a k=>sv k z (r_ldb t13 m 1 Ag 1 k z z z z z) fun a k=>sv k z (r_fa fa158_2 k z z) fun a k=>sv k z (r_ldb t13 m 1 Ag 2 k z z z z z) fun a k=>sv k z (r_fa fa158_3 k z z) fun a k=>sv k z (r_ldb t13 m 1 Ag 3 k z z z z z) fun a k=>oE h fun Bh At h=>?_)))
 refine s_call k call262 z z z z z (c_spec_l5Sides fu _ _ _  At) fun Bd Be hR=>?_
 obtain ⟨Bi,Av,rfl,e,Ab,Ba⟩:=hR
 refine ⟨_,z,fun a k=>?_⟩
 have m:=m.new e Av (fun b hb=>⟨Ba b hb,Enc.rd_lt (Enc.ow_rd Ab) b hb⟩) (Enc.ow_nd Ab)
 refine pN 1 k z fun a k=>nn (wr (sv k z (r_fa fa79_1 k z z) fun a k=>sv k z (r_ldb t13 m 1 Af 1 k z z z z z) fun a k=>sv k z (r_fa fa79_2 k z z) fun a k=>sv k z (r_ldb t13 m 1 Af 2 k z z z z z) fun a k=>sv k z (r_fa fa79_3 k z z) fun a k=>sv k z (r_ldb t13 m 1 Af 3 k z z z z z) fun a k=>oE h fun Bg Aq h=>s_call k call262 z z z z z (c_spec_l5Sides fu _ _ _  Aq) fun Bc Bf hR=>?_))
 obtain ⟨Bb,Az,rfl,e,Aa,Ap⟩:=hR
 refine ⟨_,z,fun a k=>?_⟩
 have m:=m.new e Az (fun b hb=>⟨Ap b hb,Enc.rd_lt (Enc.ow_rd Aa) b hb⟩) (Enc.ow_nd Aa)
 refine pN 1 k z fun a k=>nn (wp_seq (d_go [] mixo m z fun Aw hMd=>?_))
 have m:=hMd
 have s:=Ext.refl ([]:List Nat) Aw
 refine dN [0,3] 2 z k (by kernel_rfl) z s (fun _ _ _ _ _=>id) fun a k=>oE h fun Ao Ah h=>dt k 1 z (by kernel_rfl) z s (fun _ _ _=>id) (fun w s=>r_ixa (Enc.ow_rd Ab) Ah k ts63 z z z) fun a k=>dt k 2 z (by kernel_rfl) z s (fun _ _ _=>id) (fun w s=>r_lde1 (Enc.ow_rd Ab) ((hMd.step s).a 1 z) Ah 0 t13 k z z z z) fun a k=>oE h fun Ax Am h=>dt k 4 z (by kernel_rfl) z s (fun _ _ _=>id) (fun w s=>r_ixa (Enc.ow_rd Aa) Am k ts63 z z z) fun a k=>dt k 5 z (by kernel_rfl) z s (fun _ _ _=>id) (fun w s=>r_lde1 (Enc.ow_rd Aa) ((hMd.step s).a 0 z) Am 0 t13 k z z z z) fun a k=>dN [6,7] 2 z k (by kernel_rfl) z s (fun _ _ _ _ _=>id) fun a k=>bsplit (decide (Ao ≤ Ax)) (fun Ac=>?_) (fun Ac=>?_)
 · have h:=bif_t Ac h
   refine rB k 28 z Ac fun k=>dN [8,11] 2 z k (by kernel_rfl) z s (fun _ _ _ _ _=>id) fun a k=>oE h fun Ar Aj h=>dt k 9 z (by kernel_rfl) z s (fun _ _ _=>id) (fun w s=>r_ixa (Enc.ow_rd Ab) Aj k ts63 z z z) fun a k=>dt k 10 z (by kernel_rfl) z s (fun _ _ _=>id) (fun w s=>r_lde1 (Enc.ow_rd Ab) ((hMd.step s).a 1 z) Aj 0 t13 k z z z z) fun a k=>oE h fun Au Ai h=>dt k 12 z (by kernel_rfl) z s (fun _ _ _=>id) (fun w s=>r_ixa (Enc.ow_rd Aa) Ai k ts63 z z z) fun a k=>dt k 13 z (by kernel_rfl) z s (fun _ _ _=>id) (fun w s=>r_lde1 (Enc.ow_rd Aa) ((hMd.step s).a 0 z) Ai 0 t13 k z z z z) fun a k=>dN [14,15,16] 3 z k (by kernel_rfl) z s (fun _ _ _ _ _=>id) fun a k=>bsplit (decide (Ar ≤ Au)) (fun Ae=>?_) (fun Ae=>?_)
   · have h:=bif_t Ae h
     refine rB k 37 z Ae fun k=>dN [17,20] 2 z k (by kernel_rfl) z s (fun _ _ _ _ _=>id) fun a k=>oE h fun As Al h=>dt k 18 z (by kernel_rfl) z s (fun _ _ _=>id) (fun w s=>r_ixa (Enc.ow_rd Ab) Al k ts63 z z z) fun a k=>dt k 19 z (by kernel_rfl) z s (fun _ _ _=>id) (fun w s=>r_lde1 (Enc.ow_rd Ab) ((hMd.step s).a 1 z) Al 0 t13 k z z z z) fun a k=>oE h fun Ay Ak h=>dt k 21 z (by kernel_rfl) z s (fun _ _ _=>id) (fun w s=>r_ixa (Enc.ow_rd Aa) Ak k ts63 z z z) fun a k=>dt k 22 z (by kernel_rfl) z s (fun _ _ _=>id) (fun w s=>r_lde1 (Enc.ow_rd Aa) ((hMd.step s).a 0 z) Ak 0 t13 k z z z z) fun a k=>dN [23,24,25] 3 z k (by kernel_rfl) z s (fun _ _ _ _ _=>id) fun a k=>bsplit (decide (As ≤ Ay)) (fun Ad=>?_) (fun Ad=>?_)
     · have h:=bif_t Ad h
       refine rB k 46 z Ad fun k=>dt k 26 z (by kernel_rfl) z s (fun _ _ _=>id) (fun w s=>r_fa fa158_4 k z z) fun a k=>dt k 27 z (by kernel_rfl) z s (fun _ _ _=>id) (fun w s=>r_ld1 t13 (r:=[]) (Ag.at ((hMd.step s).a 3 z) 4 1 z z z) k z z) fun a k=>dt k 28 z (by kernel_rfl) z s (fun _ _ _=>id) (fun w s=>r_fa fa79_5 k z z) fun a k=>dt k 29 z (by kernel_rfl) z s (fun _ _ _=>id) (fun w s=>r_ld1 t13 (r:=[]) (Af.at ((hMd.step s).a 2 z) 5 1 z z z) k z z) fun a k=>dN [30,31,32] 3 z k (by kernel_rfl) z s (fun _ _ _ _ _=>id) fun a k=>d_done (by kernel_rfl) ?_
       have k:=k.keep [4] z
       refine (nm_then ?_)
       refine wp_ret (fS h k m z z)
     have h:=bif_f Ad h
     refine rB k 46 z Ad fun k=>dN [26,27,28,29,30,31,32] 7 z k (by kernel_rfl) z s (fun _ _ _ _ _=>id) fun a k=>d_done (by kernel_rfl) ?_
     have k:=k.keep [4] z
     refine (nm_then ?_)
     refine wp_ret (fS h k m z z)
   have h:=bif_f Ae h
   refine rB k 37 z Ae fun k=>dN [17,18,19,20,21,22,23,24,25,26,27,28,29,30,31,32] 16 z k (by kernel_rfl) z s (fun _ _ _ _ _=>id) fun a k=>d_done (by kernel_rfl) ?_
   have k:=k.keep [4] z
   refine (nm_then ?_)
   refine wp_ret (fS h k m z z)
 have h:=bif_f Ac h
 refine rB k 28 z Ac fun k=>dN [8,9,10,11,12,13,14,15,16,17,18,19,20,21,22,23,24,25,26,27,28,29,30,31,32] 25 z k (by kernel_rfl) z s (fun _ _ _ _ _=>id) fun a k=>d_done (by kernel_rfl) ?_
 have k:=k.keep [4] z
 refine (nm_then ?_)
 refine wp_ret (fS h k m z z)
theorem c_spec_Class (fu:Nat) {w0:World} (r1:Request) {As:List Value} {F3:List Nat} (Aw:rd w0 F3 As r1) {r:Int}
    (h:d_spec_Class fu r1 = some r) :
    Calls Tryz.prog 74 #[.agg As.toArray] w0 fun e w=>e = .returned (I r) ∧ Ext [] w0 w:=by
 refine enter (vs:=[_]) func74 z ntmps74 z fun a k=>?_
 have m:=St.start w0
 obtain ⟨v5,F6,v7,F8,v9,Bz,rfl,rfl,Af,Ac,Ab⟩:=Aw
 unfold d_spec_Class at h
 refine wr (s_box (cs:=[I r1.fWay,I r1.fPallet.fW,I r1.fPallet.fD,I r1.fPallet.fH,I r1.fPallet.fGram,I r1.fClasses,v5,v7,I r1.fMaster,v9]) m k z z z z z z fun Ah Ao a k m e Aa=>pN 1 k z fun a k=>nn (wp_seq (wr (sv k z (r_ldB ta38 m 0 Aa 0 k z z z z z z) fun a k=>oE h fun Bq Bh h=>?_))))
 refine cE k m call187 z z z (c_spec_BoundsOk fu _ (show rd _ _ [I r1.fWay,I r1.fPallet.fW,I r1.fPallet.fD,I r1.fPallet.fH,I r1.fPallet.fGram,I r1.fClasses,v5,v7,I r1.fMaster,v9] (r1:Request) from ⟨_,_,_,_,_,_,z,z,(Enc.rd_agr Af (m.a00 (Enc.rd_lt Af))),(Enc.rd_agr Ac (m.a00 (Enc.rd_lt Ac))),(Enc.rd_agr Ab (m.a00 (Enc.rd_lt Ab)))⟩) Bh) fun Ca e a k m=>pN 1 k z fun a k=>nn (cI h k z (fun Bg h=>?_) fun Bg h=>?_)
 · refine wr (pN 1 k z fun a k=>nn (wp_ret (rt_then ?_)))
   refine fS h k m z z
 refine wp_skip (nm_then ?_)
 refine wp_seq (wr (sv k z (r_ldB ta38 m 0 Aa 0 k z z z z z z) fun a k=>oE h fun Bp Az h=>cE k m call188 z z z (c_spec_l5Names fu _ (show rd _ _ [I r1.fWay,I r1.fPallet.fW,I r1.fPallet.fD,I r1.fPallet.fH,I r1.fPallet.fGram,I r1.fClasses,v5,v7,I r1.fMaster,v9] (r1:Request) from ⟨_,_,_,_,_,_,z,z,(Enc.rd_agr Af (m.a00 (Enc.rd_lt Af))),(Enc.rd_agr Ac (m.a00 (Enc.rd_lt Ac))),(Enc.rd_agr Ab (m.a00 (Enc.rd_lt Ab)))⟩) Az) fun Bv e a k m=>pN 1 k z fun a k=>nn (cI h k z (fun Ba h=>?_) fun Ba h=>?_)))
 · refine wr (pN 1 k z fun a k=>nn (wp_ret (rt_then ?_)))
   refine fS h k m z z
 refine wp_skip (nm_then ?_)
 refine wp_seq (wr (sv k z (r_fa fa38_3 k z z) fun a k=>sv k z (r_ldb t134 m 0 Aa 6 k z z z z z) fun a k=>sv k z (r_fa fa38_2 k z z) fun a k=>sv k z (r_ldb t13 m 0 Aa 5 k z z z z z) fun a k=>oE h fun Cb At h=>cE k m call189 z z z (c_spec_TableOk fu _ _ (Enc.rd_agr Af (m.a00 (Enc.rd_lt Af))) At) fun Bo e a k m=>pN 1 k z fun a k=>nn (cI h k z (fun Ay h=>?_) fun Ay h=>?_)))
 · refine wr (pN 1 k z fun a k=>nn (wp_ret (rt_then ?_)))
   refine fS h k m z z
 refine wp_skip (nm_then ?_)
 refine wr (sv k z (r_ldB ta38 m 0 Aa 0 k z z z z z z) fun a k=>oE h fun Ae Bj h=>cE k m call89 z z z (c_spec_MasterOf fu _ (show rd _ _ [I r1.fWay,I r1.fPallet.fW,I r1.fPallet.fD,I r1.fPallet.fH,I r1.fPallet.fGram,I r1.fClasses,v5,v7,I r1.fMaster,v9] (r1:Request) from ⟨_,_,_,_,_,_,z,z,(Enc.rd_agr Af (m.a00 (Enc.rd_lt Af))),(Enc.rd_agr Ac (m.a00 (Enc.rd_lt Ac))),(Enc.rd_agr Ab (m.a00 (Enc.rd_lt Ab)))⟩) Bj) fun Bt e a k m=>pN 3 k z fun a k=>s_alloc (cs:=[I 0,I 0,I 0,I 0,I 0,I 0,I 0]) m k zeroValue79 z z z z z fun Ap Ce a k m e Ax=>?_)
 refine s_stb (cs':=[I Ae.1.fId,I Ae.1.fW,I Ae.1.fH,I Ae.1.fD,I Ae.1.fTare,I Ae.1.fGram,I Ae.1.fCost]) sizeOf79 m 0 Ax 0 k z z z z z z z z z z z fun Bf a k e m Av=>pN 1 k z fun a k=>nn (wp_seq (wr (pN 1 k z fun a k=>nn (wp_block (c_loop (fun n a w=>∃ (Am:Int),K 85 [(1,.pointer (some (⟨Ah,0,none⟩:Addr))),(3,.pointer (some (⟨Ap,0,none⟩:Addr))),(5,I Am)] a ∧ St [] w0 w [([Ah],Ao),([Ap],Bf)] ∧ d_spec_Class_L2 fu r1 Ae n Am = some r) ?_ ?_ fu _ _ ?_)))))
 · rintro a w ⟨_,_,_,h⟩
   exact nS h
 · rintro Br a Bs ⟨Am,k,m,h⟩
   rw [d_spec_Class_L2_s] at h
   unfold d_spec_Class_L2_B at h
   refine wp_seq (wr (pN 1 k z fun a k=>sv k z (r_fa fa38_6 k z z) fun a k=>sv k z (r_ldb t136 m 0 Aa 9 k z z z z z) fun a k=>sv k z (r_len (α:=Item) Ab k underlying36 z z) fun a k=>pN 1 k z fun a k=>nn (cI h k z (fun Bc h=>?_) fun Bc h=>?_)))
   · refine wp_skip (nm_then ?_)
     refine wp_seq (wp_block (wp_seq (d_go [] mixo m z fun Au hMd=>?_)))
     have m:=hMd
     have s:=Ext.refl ([]:List Nat) Au
     refine dN [2] 1 z k (by kernel_rfl) z s (fun _ _ _ _ _=>id) fun a k=>dt k 0 z (by kernel_rfl) z s (fun _ _ _=>id) (fun w s=>r_fa fa38_6 k z z) fun a k=>dt k 1 z (by kernel_rfl) z s (fun _ _ _=>id) (fun w s=>r_ld1 t136 (r:=[]) (Aa.at ((hMd.step s).a 0 z) 9 1 z z z) k z z) fun a k=>oE h fun Bb Aq h=>dt k 3 z (by kernel_rfl) z s (fun _ _ _=>id) (fun w s=>r_ixa Ab Aq k ts36 z z z) fun a k=>dt k 4 z (by kernel_rfl) z s (fun _ _ _=>id) (fun w s=>r_lde Ab ((hMd.step s).a00 (Enc.rd_lt Ab)) Aq ta158 k z z) fun a k=>dt k 5 z (by kernel_rfl) z s (fun _ _ _=>id) (fun w s=>r_ldA ta79 (Av.at ((hMd.step s).a 1 z) 0 7 z z z) z k z z) fun a k=>d_one 6 (by kernel_rfl) z (oE h fun Bn Bi h=>?_)
     refine cE k m call190 z z z (c_spec_Fits fu (Bb:Item) (Ae.1:Typ)  Bi) fun Bx e a k m=>?_
     have s:=s.trans e (by simp)
     refine wpList_nil ⟨s,?_⟩
     refine dN [7] 1 z k (by kernel_rfl) z s (fun _ _ _ _ _=>id) fun a k=>d_done (by kernel_rfl) ((nm_then ?_))
     refine cI h k z (fun Bl h=>?_) fun Bl h=>?_
     · refine wr (pN 1 k z fun a k=>nn (wp_ret (rt_block (rt_then (rt_then (rt_block (rt_then ?_)))))))
       refine fS h k m z z
     refine wp_skip (nm_block (nm_then ?_))
     refine wp_region_lit (pN 3 k z fun a k=>nn ?_)
     exact ⟨w64 (Am + 1),k.keep [1,3,5] z,m.sel [0,1] z (by decide),h⟩
   refine wp_exit (ex_then (ex_then (ex_same (nm_then ?_))))
   refine wp_seq (wr (pN 1 k z fun a k=>nn (wp_block (c_loop (fun n a w=>∃ (Ag:Int),K 85 [(1,.pointer (some (⟨Ah,0,none⟩:Addr))),(6,I Ag)] a ∧ St [] w0 w [([Ah],Ao)] ∧ d_spec_Class_L1 fu r1 n Ag = some r) ?_ ?_ fu _ _ ?_))))
   · rintro a w ⟨_,_,_,h⟩
     exact nS h
   · rintro Bm a By ⟨Ag,k,m,h⟩
     rw [d_spec_Class_L1_s] at h
     unfold d_spec_Class_L1_B at h
     refine wp_seq (wr (pN 1 k z fun a k=>sv k z (r_fa fa38_4 k z z) fun a k=>sv k z (r_ldb t135 m 0 Aa 7 k z z z z z) fun a k=>sv k z (r_len (α:=Typ) Ac k underlying35 z z) fun a k=>pN 1 k z fun a k=>nn (cI h k z (fun Bd h=>?_) fun Bd h=>?_)))
     · refine wp_skip (nm_then ?_)
       refine c_cut (fun a w=>K 85 [(1,.pointer (some (⟨Ah,0,none⟩:Addr))),(6,I Ag)] a ∧ St [] w0 w [([Ah],Ao)] ∧ d_spec_Class_J1 fu (d_spec_Class_L1 fu r1 Bm) Ag = some r) ?_ ?_
       · rintro a Cc ⟨k,m,h⟩
         unfold d_spec_Class_J1 at h
         refine wp_region_lit (pN 3 k z fun a k=>nn ?_)
         exact ⟨w64 (Ag + 1),k.keep [1,6] z,m.sel [0] z (by decide),h⟩
       refine wp_block (wr (sv k z (r_fa fa38_4 k z z) fun a k=>sv k z (r_ldb t135 m 0 Aa 7 k z z z z z) fun a k=>pN 1 k z fun a k=>oE h fun Ad Ar h=>sv k z (r_ixa Ac Ar k ts35 z z z) fun a k=>sv k z (r_lde Ac (m.a00 (Enc.rd_lt Ac)) Ar ta79 k z z) fun a k=>s_alloc (cs:=[I 0,I 0,I 0,I 0,I 0,I 0,I 0]) m k zeroValue79 z z z z z fun Bu Cd a k m e Bk=>s_stb (cs':=[I Ad.fId,I Ad.fW,I Ad.fH,I Ad.fD,I Ad.fTare,I Ad.fGram,I Ad.fCost]) sizeOf79 m 0 Bk 0 k z z z z z z z z z z z fun Bw a k e m Aj=>nn (wr (sv k z (r_fa fa79_1 k z z) fun a k=>?_))))
       refine sv k z (r_ldb t13 m 0 Aj 1 k z z z z z) fun a k=>sv k z (r_fa fa38_1 k z z) fun a k=>sv k z (r_fa fa33_0 k z z) fun a k=>sv k z (r_ldb t13 m 1 Aa 1 k z z z z z) fun a k=>pN 2 k z fun a k=>bsplit (decide (Ad.fW > r1.fPallet.fW)) (fun Al=>?_) (fun Al=>?_)
       · have h:=bif_t Al h
         refine rB k 58 z Al fun k=>pN 26 k z fun a k=>?_
         have k:=k.keep [1,6,84] z
         refine nn (wp_cond_true (k.ev z) (wr (pN 1 k z fun a k=>nn (wp_ret (rt_block (rt_then (rt_then (rt_block (rt_then ?_)))))))))
         refine fS h k m z z
       have h:=bif_f Al h
       refine rB k 58 z Al fun k=>sv k z (r_fa fa79_3 k z z) fun a k=>sv k z (r_ldb t13 m 0 Aj 3 k z z z z z) fun a k=>sv k z (r_fa fa38_1 k z z) fun a k=>sv k z (r_fa fa33_1 k z z) fun a k=>sv k z (r_ldb t13 m 1 Aa 2 k z z z z z) fun a k=>pN 3 k z fun a k=>bsplit (decide (Ad.fD > r1.fPallet.fD)) (fun Ak=>?_) (fun Ak=>?_)
       · have h:=bif_t Ak h
         refine rB k 66 z Ak fun k=>pN 18 k z fun a k=>?_
         have k:=k.keep [1,6,84] z
         refine nn (wp_cond_true (k.ev z) (wr (pN 1 k z fun a k=>nn (wp_ret (rt_block (rt_then (rt_then (rt_block (rt_then ?_)))))))))
         refine fS h k m z z
       have h:=bif_f Ak h
       refine rB k 66 z Ak fun k=>sv k z (r_fa fa79_2 k z z) fun a k=>sv k z (r_ldb t13 m 0 Aj 2 k z z z z z) fun a k=>sv k z (r_fa fa38_1 k z z) fun a k=>sv k z (r_fa fa33_2 k z z) fun a k=>sv k z (r_ldb t13 m 1 Aa 3 k z z z z z) fun a k=>pN 3 k z fun a k=>bsplit (decide (Ad.fH > r1.fPallet.fH)) (fun Ai=>?_) (fun Ai=>?_)
       · have h:=bif_t Ai h
         refine rB k 74 z Ai fun k=>pN 10 k z fun a k=>?_
         have k:=k.keep [1,6,84] z
         refine nn (wp_cond_true (k.ev z) (wr (pN 1 k z fun a k=>nn (wp_ret (rt_block (rt_then (rt_then (rt_block (rt_then ?_)))))))))
         refine fS h k m z z
       have h:=bif_f Ai h
       refine rB k 74 z Ai fun k=>sv k z (r_fa fa79_4 k z z) fun a k=>sv k z (r_ldb t13 m 0 Aj 4 k z z z z z) fun a k=>sv k z (r_fa fa79_5 k z z) fun a k=>sv k z (r_ldb t13 m 0 Aj 5 k z z z z z) fun a k=>pN 1 k z fun a k=>sv k z (r_fa fa38_1 k z z) fun a k=>sv k z (r_fa fa33_3 k z z) fun a k=>sv k z (r_ldb t13 m 1 Aa 4 k z z z z z) fun a k=>pN 2 k z fun a k=>?_
       have k:=k.keep [1,6,84] z
       refine nn (cI h k z (fun Be h=>?_) fun Be h=>?_)
       · refine wr (pN 1 k z fun a k=>nn (wp_ret (rt_block (rt_then (rt_then (rt_block (rt_then ?_)))))))
         refine fS h k m z z
       refine wp_skip (nm_block (nm_then ?_))
       exact ⟨k.keep [1,6] z,m.sel [1] z (by decide),h⟩
     refine wp_exit (ex_then (ex_then (ex_same (nm_then ?_))))
     refine wr (pN 1 k z fun a k=>nn (wp_ret (fS h k m z z)))
   exact ⟨0,k.keep [1,6] z,m.sel [0] z (by decide),h⟩
 exact ⟨0,k.keep [1,3,5] z,m.sel [1,0] z (by decide),h⟩

end Go.Proofs.YtkkfmjpbiimkbaaGreat
