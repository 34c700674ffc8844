/- FnExactFeasible: the walks of functions that it reaches (ExactFeasibleBWs,part 1). Printed by gen.py. -/
import Derived.Test.YtkkfmjpbiimkbaaGreatExactFeasibleBT
set_option maxRecDepth 20000
set_option linter.unusedSimpArgs false
set_option linter.unusedVariables false
namespace Go.Proofs.YtkkfmjpbiimkbaaGreat
open Go Go.RowKit
open Enc (rd ow)
open Arg (argv)
open Ret (retv)
open Go.Proofs.Tryz


theorem c_spec_l1In (fu:Nat) {w0:World} (x1:Int) (Ab:Int) (Ac:Int)  {r:Bool}
    (h:d_spec_l1In fu x1 Ab Ac = some r) :
    Calls Tryz.prog 130 #[I x1,I Ab,I Ac] w0 fun e w=>e = .returned (.bool (r)) ∧ Ext [] w0 w:=by
 refine enter (vs:=[_,_,_]) func130 z ntmps130 z fun a k=>?_
 have m:=St.start w0
 unfold d_spec_l1In at h
 refine wr (pN 1 k z fun a k=>nn (wr (pN 4 k z fun a k=>bsplit (decide (x1 ≥ Ab)) (fun Aa=>?_) (fun Aa=>?_))))
 · have h:=bif_t Aa h
   refine rB k 10 z Aa fun k=>pN 5 k z fun a k=>nn (wp_ret (fS h k m z z))
 have h:=bif_f Aa h
 refine rB k 10 z Aa fun k=>pN 5 k z fun a k=>nn (wp_ret (fS h k m z z))
theorem c_spec_l2Side (fu:Nat) {w0:World} (x1:Int)  {r:Bool}
    (h:d_spec_l2Side fu x1 = some r) :
    Calls Tryz.prog 297 #[I x1] w0 fun e w=>e = .returned (.bool (r)) ∧ Ext [] w0 w:=by
 refine enter (vs:=[_]) func297 z ntmps297 z fun a k=>?_
 have m:=St.start w0
 unfold d_spec_l2Side at h
 refine wr (pN 1 k z fun a k=>nn (wr (pN 1 k z fun a k=>oE h fun x2 Aa h=>cE k m call130 z z z (c_spec_l1In fu _ _ _  Aa) fun w5 e a k m=>pN 1 k z fun a k=>nn (wp_ret (fS h k m z z)))))
theorem c_spec_PalletOk (fu:Nat) {w0:World} (x1:Pallet)  {r:Bool}
    (h:d_spec_PalletOk fu x1 = some r) :
    Calls Tryz.prog 258 #[.agg (Flat.e (x1)).toArray] w0 fun e w=>e = .returned (.bool (r)) ∧ Ext [] w0 w:=by
 refine enter (vs:=[_]) func258 z ntmps258 z fun a k=>?_
 have m:=St.start w0
 unfold d_spec_PalletOk at h
 refine wr (s_box (cs:=[I x1.fW,I x1.fD,I x1.fH,I x1.fGram]) m k z z z z z z fun b2 w4 a k m e Ad=>pN 1 k z fun a k=>nn (wr (sv k z (r_fa fa33_0 k z z) fun a k=>sv k z (r_ldb t13 m 0 Ad 0 k z z z z z) fun a k=>oE h fun x5 Ag h=>cE k m call297 z z z (c_spec_l2Side fu _  Ag) fun w9 e a k m=>pN 1 k z fun a k=>bsplit (x5) (fun Ab=>?_) (fun Ab=>?_))))
 · have h:=bif_t Ab h
   refine rB k 6 z Ab fun k=>sv k z (r_fa fa33_1 k z z) fun a k=>sv k z (r_ldb t13 m 0 Ad 1 k z z z z z) fun a k=>oE h fun Ae Aj h=>cE k m call297 z z z (c_spec_l2Side fu _  Aj) fun Ak e a k m=>pN 2 k z fun a k=>bsplit (Ae) (fun Ac=>?_) (fun Ac=>?_)
   · have h:=bif_t Ac h
     refine rB k 11 z Ac fun k=>sv k z (r_fa fa33_2 k z z) fun a k=>sv k z (r_ldb t13 m 0 Ad 2 k z z z z z) fun a k=>oE h fun Af Ai h=>cE k m call297 z z z (c_spec_l2Side fu _  Ai) fun Am e a k m=>pN 2 k z fun a k=>bsplit (Af) (fun Aa=>?_) (fun Aa=>?_)
     · have h:=bif_t Aa h
       refine rB k 16 z Aa fun k=>sv k z (r_fa fa33_3 k z z) fun a k=>sv k z (r_ldb t13 m 0 Ad 3 k z z z z z) fun a k=>oE h fun Ao Ah h=>cE k m call130 z z z (c_spec_l1In fu _ _ _  Ah) fun Al e a k m=>pN 2 k z fun a k=>nn (wp_ret (fS h k m z z))
     have h:=bif_f Aa h
     refine rB k 16 z Aa fun k=>pN 5 k z fun a k=>nn (wp_ret (fS h k m z z))
   have h:=bif_f Ac h
   refine rB k 11 z Ac fun k=>pN 10 k z fun a k=>nn (wp_ret (fS h k m z z))
 have h:=bif_f Ab h
 refine rB k 6 z Ab fun k=>pN 15 k z fun a k=>nn (wp_ret (fS h k m z z))
theorem c_spec_l2Id (fu:Nat) {w0:World} (x1:Int)  {r:Bool}
    (h:d_spec_l2Id fu x1 = some r) :
    Calls Tryz.prog 259 #[I x1] w0 fun e w=>e = .returned (.bool (r)) ∧ Ext [] w0 w:=by
 refine enter (vs:=[_]) func259 z ntmps259 z fun a k=>?_
 have m:=St.start w0
 unfold d_spec_l2Id at h
 refine wr (pN 1 k z fun a k=>nn (wr (pN 1 k z fun a k=>oE h fun x2 Aa h=>cE k m call130 z z z (c_spec_l1In fu _ _ _  Aa) fun w5 e a k m=>pN 1 k z fun a k=>nn (wp_ret (fS h k m z z)))))
theorem c_spec_TypeOk (fu:Nat) {w0:World} (x1:Typ)  {r:Bool}
    (h:d_spec_TypeOk fu x1 = some r) :
    Calls Tryz.prog 260 #[.agg (Flat.e (x1)).toArray] w0 fun e w=>e = .returned (.bool (r)) ∧ Ext [] w0 w:=by
 refine enter (vs:=[_]) func260 z ntmps260 z fun a k=>?_
 have m:=St.start w0
 unfold d_spec_TypeOk at h
 refine wr (s_box (cs:=[I x1.fId,I x1.fW,I x1.fH,I x1.fD,I x1.fTare,I x1.fGram,I x1.fCost]) m k z z z z z z fun b2 w4 a k m e Aa=>pN 1 k z fun a k=>nn (wr (sv k z (r_fa fa79_0 k z z) fun a k=>sv k z (r_ldb t13 m 0 Aa 0 k z z z z z) fun a k=>oE h fun x5 Ao h=>cE k m call259 z z z (c_spec_l2Id fu _  Ao) fun w9 e a k m=>pN 1 k z fun a k=>bsplit (x5) (fun Ad=>?_) (fun Ad=>?_))))
 · have h:=bif_t Ad h
   refine rB k 6 z Ad fun k=>sv k z (r_fa fa79_1 k z z) fun a k=>sv k z (r_ldb t13 m 0 Aa 1 k z z z z z) fun a k=>oE h fun Aj Ar h=>cE k m call297 z z z (c_spec_l2Side fu _  Ar) fun Aw e a k m=>pN 2 k z fun a k=>bsplit (Aj) (fun Ae=>?_) (fun Ae=>?_)
   · have h:=bif_t Ae h
     refine rB k 11 z Ae fun k=>sv k z (r_fa fa79_2 k z z) fun a k=>sv k z (r_ldb t13 m 0 Aa 2 k z z z z z) fun a k=>oE h fun As Ak h=>cE k m call297 z z z (c_spec_l2Side fu _  Ak) fun Au e a k m=>pN 2 k z fun a k=>bsplit (As) (fun Ac=>?_) (fun Ac=>?_)
     · have h:=bif_t Ac h
       refine rB k 16 z Ac fun k=>sv k z (r_fa fa79_3 k z z) fun a k=>sv k z (r_ldb t13 m 0 Aa 3 k z z z z z) fun a k=>oE h fun Ai At h=>cE k m call297 z z z (c_spec_l2Side fu _  At) fun Ba e a k m=>pN 2 k z fun a k=>bsplit (Ai) (fun Ag=>?_) (fun Ag=>?_)
       · have h:=bif_t Ag h
         refine rB k 21 z Ag fun k=>sv k z (r_fa fa79_4 k z z) fun a k=>sv k z (r_ldb t13 m 0 Aa 4 k z z z z z) fun a k=>oE h fun Ap Al h=>cE k m call130 z z z (c_spec_l1In fu _ _ _  Al) fun Av e a k m=>pN 2 k z fun a k=>bsplit (Ap) (fun Ab=>?_) (fun Ab=>?_)
         · have h:=bif_t Ab h
           refine rB k 26 z Ab fun k=>sv k z (r_fa fa79_5 k z z) fun a k=>sv k z (r_ldb t13 m 0 Aa 5 k z z z z z) fun a k=>oE h fun Ah Am h=>cE k m call130 z z z (c_spec_l1In fu _ _ _  Am) fun Ay e a k m=>pN 2 k z fun a k=>bsplit (Ah) (fun Af=>?_) (fun Af=>?_)
           · have h:=bif_t Af h
             refine rB k 31 z Af fun k=>sv k z (r_fa fa79_6 k z z) fun a k=>sv k z (r_ldb t13 m 0 Aa 6 k z z z z z) fun a k=>oE h fun Ax Aq h=>cE k m call130 z z z (c_spec_l1In fu _ _ _  Aq) fun Az e a k m=>pN 2 k z fun a k=>?_
             have k:=k.keep [2] z
             refine nn (wp_ret (fS h k m z z))
           have h:=bif_f Af h
           refine rB k 31 z Af fun k=>pN 5 k z fun a k=>?_
           have k:=k.keep [2] z
           refine nn (wp_ret (fS h k m z z))
         have h:=bif_f Ab h
         refine rB k 26 z Ab fun k=>pN 10 k z fun a k=>?_
         have k:=k.keep [2] z
         refine nn (wp_ret (fS h k m z z))
       have h:=bif_f Ag h
       refine rB k 21 z Ag fun k=>pN 15 k z fun a k=>?_
       have k:=k.keep [2] z
       refine nn (wp_ret (fS h k m z z))
     have h:=bif_f Ac h
     refine rB k 16 z Ac fun k=>pN 20 k z fun a k=>?_
     have k:=k.keep [2] z
     refine nn (wp_ret (fS h k m z z))
   have h:=bif_f Ae h
   refine rB k 11 z Ae fun k=>pN 25 k z fun a k=>?_
   have k:=k.keep [2] z
   refine nn (wp_ret (fS h k m z z))
 have h:=bif_f Ad h
 refine rB k 6 z Ad fun k=>pN 30 k z fun a k=>?_
 have k:=k.keep [2] z
 refine nn (wp_ret (fS h k m z z))
theorem c_spec_ItemOk (fu:Nat) {w0:World} (x1:Item)  {r:Bool}
    (h:d_spec_ItemOk fu x1 = some r) :
    Calls Tryz.prog 261 #[.agg (Flat.e (x1)).toArray] w0 fun e w=>e = .returned (.bool (r)) ∧ Ext [] w0 w:=by
 refine enter (vs:=[_]) func261 z ntmps261 z fun a k=>?_
 have m:=St.start w0
 unfold d_spec_ItemOk at h
 refine wr (s_box (cs:=[I x1.fId,I x1.fW,I x1.fH,I x1.fD,I x1.fGram,I x1.fClass,I x1.fCount]) m k z z z z z z fun b2 w4 a k m e Aa=>pN 1 k z fun a k=>nn (wr (sv k z (r_fa fa158_0 k z z) fun a k=>sv k z (r_ldb t13 m 0 Aa 0 k z z z z z) fun a k=>oE h fun x5 Ao h=>cE k m call259 z z z (c_spec_l2Id fu _  Ao) fun w9 e a k m=>pN 1 k z fun a k=>bsplit (x5) (fun Ad=>?_) (fun Ad=>?_))))
 · have h:=bif_t Ad h
   refine rB k 6 z Ad fun k=>sv k z (r_fa fa158_1 k z z) fun a k=>sv k z (r_ldb t13 m 0 Aa 1 k z z z z z) fun a k=>oE h fun Aj Ar h=>cE k m call297 z z z (c_spec_l2Side fu _  Ar) fun Aw e a k m=>pN 2 k z fun a k=>bsplit (Aj) (fun Ae=>?_) (fun Ae=>?_)
   · have h:=bif_t Ae h
     refine rB k 11 z Ae fun k=>sv k z (r_fa fa158_2 k z z) fun a k=>sv k z (r_ldb t13 m 0 Aa 2 k z z z z z) fun a k=>oE h fun As Ak h=>cE k m call297 z z z (c_spec_l2Side fu _  Ak) fun Au e a k m=>pN 2 k z fun a k=>bsplit (As) (fun Ac=>?_) (fun Ac=>?_)
     · have h:=bif_t Ac h
       refine rB k 16 z Ac fun k=>sv k z (r_fa fa158_3 k z z) fun a k=>sv k z (r_ldb t13 m 0 Aa 3 k z z z z z) fun a k=>oE h fun Ai At h=>cE k m call297 z z z (c_spec_l2Side fu _  At) fun Ba e a k m=>pN 2 k z fun a k=>bsplit (Ai) (fun Ag=>?_) (fun Ag=>?_)
       · have h:=bif_t Ag h
         refine rB k 21 z Ag fun k=>sv k z (r_fa fa158_4 k z z) fun a k=>sv k z (r_ldb t13 m 0 Aa 4 k z z z z z) fun a k=>oE h fun Ap Al h=>cE k m call130 z z z (c_spec_l1In fu _ _ _  Al) fun Av e a k m=>pN 2 k z fun a k=>bsplit (Ap) (fun Ab=>?_) (fun Ab=>?_)
         · have h:=bif_t Ab h
           refine rB k 26 z Ab fun k=>sv k z (r_fa fa158_5 k z z) fun a k=>sv k z (r_ldb t13 m 0 Aa 5 k z z z z z) fun a k=>oE h fun Ah Am h=>cE k m call130 z z z (c_spec_l1In fu _ _ _  Am) fun Ay e a k m=>pN 2 k z fun a k=>bsplit (Ah) (fun Af=>?_) (fun Af=>?_)
           · have h:=bif_t Af h
             refine rB k 31 z Af fun k=>sv k z (r_fa fa158_6 k z z) fun a k=>sv k z (r_ldb t13 m 0 Aa 6 k z z z z z) fun a k=>oE h fun Ax Aq h=>cE k m call130 z z z (c_spec_l1In fu _ _ _  Aq) fun Az e a k m=>pN 2 k z fun a k=>?_
             have k:=k.keep [2] z
             refine nn (wp_ret (fS h k m z z))
           have h:=bif_f Af h
           refine rB k 31 z Af fun k=>pN 5 k z fun a k=>?_
           have k:=k.keep [2] z
           refine nn (wp_ret (fS h k m z z))
         have h:=bif_f Ab h
         refine rB k 26 z Ab fun k=>pN 10 k z fun a k=>?_
         have k:=k.keep [2] z
         refine nn (wp_ret (fS h k m z z))
       have h:=bif_f Ag h
       refine rB k 21 z Ag fun k=>pN 15 k z fun a k=>?_
       have k:=k.keep [2] z
       refine nn (wp_ret (fS h k m z z))
     have h:=bif_f Ac h
     refine rB k 16 z Ac fun k=>pN 20 k z fun a k=>?_
     have k:=k.keep [2] z
     refine nn (wp_ret (fS h k m z z))
   have h:=bif_f Ae h
   refine rB k 11 z Ae fun k=>pN 25 k z fun a k=>?_
   have k:=k.keep [2] z
   refine nn (wp_ret (fS h k m z z))
 have h:=bif_f Ad h
 refine rB k 6 z Ad fun k=>pN 30 k z fun a k=>?_
 have k:=k.keep [2] z
 refine nn (wp_ret (fS h k m z z))
theorem c_spec_BoundsOk (fu:Nat) {w0:World} (r1:Request) {Aw:List Value} {F3:List Nat} (Br:rd w0 F3 Aw r1) {r:Bool}
    (h:d_spec_BoundsOk fu r1 = some r) :
    Calls Tryz.prog 187 #[.agg Aw.toArray] w0 fun e w=>e = .returned (.bool (r)) ∧ Ext [] w0 w:=by
 refine enter (vs:=[_]) func187 z ntmps187 z fun a k=>?_
 have m:=St.start w0
 obtain ⟨v5,F6,v7,F8,v9,Bz,rfl,rfl,Ac,Ai,Ad⟩:=Br
 unfold d_spec_BoundsOk at h
 refine wr (s_box (cs:=[I r1.fWay,I r1.fPallet.fW,I r1.fPallet.fD,I r1.fPallet.fH,I r1.fPallet.fGram,I r1.fClasses,v5,v7,I r1.fMaster,v9]) m k z z z z z z fun Ab Am a k m e Aa=>pN 1 k z fun a k=>nn (c_cut (fun a w=>K 111 [(1,.pointer (some (⟨Ab,0,none⟩:Addr)))] a ∧ St [] w0 w [([Ab],Am)] ∧ d_spec_BoundsOk_J2 fu r1 = some r) ?_ ?_))
 · rintro a Co ⟨k,m,h⟩
   unfold d_spec_BoundsOk_J2 at h
   refine wp_seq (wr (pN 1 k z fun a k=>nn (wp_block (c_loop (fun n a w=>∃ (Ae:Int),K 111 [(1,.pointer (some (⟨Ab,0,none⟩:Addr))),(3,I Ae)] a ∧ St [] w0 w [([Ab],Am)] ∧ d_spec_BoundsOk_L3 fu r1 n Ae = some r) ?_ ?_ fu _ _ ?_))))
   · rintro a w ⟨_,_,_,h⟩
     exact nS h
   · rintro Bm a Cg ⟨Ae,k,m,h⟩
     rw [d_spec_BoundsOk_L3_s] at h
     unfold d_spec_BoundsOk_L3_B at h
     refine wp_seq (wr (pN 1 k z fun a k=>sv k z (r_fa fa38_3 k z z) fun a k=>sv k z (r_ldb t134 m 0 Aa 6 k z z z z z) fun a k=>sv k z (r_len (α:=Pair) Ac k underlying34 z z) fun a k=>pN 1 k z fun a k=>nn (cI h k z (fun Ax h=>?_) fun Ax h=>?_)))
     · refine wp_skip (nm_then ?_)
       refine c_cut (fun a w=>K 111 [(1,.pointer (some (⟨Ab,0,none⟩:Addr))),(3,I Ae)] a ∧ St [] w0 w [([Ab],Am)] ∧ d_spec_BoundsOk_J1 fu (d_spec_BoundsOk_L3 fu r1 Bm) Ae = some r) ?_ ?_
       · rintro a Cj ⟨k,m,h⟩
         unfold d_spec_BoundsOk_J1 at h
         refine wp_region_lit (pN 3 k z fun a k=>nn ?_)
         exact ⟨w64 (Ae + 1),k.keep [1,3] z,m.sel [0] z (by decide),h⟩
       refine wp_block (wr (sv k z (r_fa fa38_3 k z z) fun a k=>sv k z (r_ldb t134 m 0 Aa 6 k z z z z z) fun a k=>pN 1 k z fun a k=>oE h fun By Aq h=>sv k z (r_ixa Ac Aq k ts34 z z z) fun a k=>sv k z (r_fa fa180_0 k z z) fun a k=>sv k z (r_lde1 Ac (m.a00 (Enc.rd_lt Ac)) Aq 0 t13 k z z z z) fun a k=>oE h fun Bn Bt h=>cE k m call130 z z z (c_spec_l1In fu _ _ _  Bt) fun Ca e a k m=>pN 2 k z fun a k=>bsplit (!Bn) (fun Aj=>?_) (fun Aj=>?_)))
       · have h:=bif_t Aj h
         refine rB k 63 z Aj fun k=>pN 9 k z fun a k=>nn (wp_cond_true (k.ev z) (wr (pN 1 k z fun a k=>nn (wp_ret (rt_block (rt_then (rt_then (rt_block (rt_then ?_)))))))))
         refine fS h k m z z
       have h:=bif_f Aj h
       refine rB k 63 z Aj fun k=>sv k z (r_fa fa38_3 k z z) fun a k=>sv k z (r_ldb t134 m 0 Aa 6 k z z z z z) fun a k=>pN 1 k z fun a k=>oE h fun Cb Bw h=>sv k z (r_ixa Ac Aq k ts34 z z z) fun a k=>sv k z (r_fa fa180_1 k z z) fun a k=>sv k z (r_lde1 Ac (m.a00 (Enc.rd_lt Ac)) Aq 1 t13 k z z z z) fun a k=>oE h fun Cr Bv h=>cE k m call130 z z z (c_spec_l1In fu _ _ _  Bv) fun Cp e a k m=>pN 2 k z fun a k=>nn (cI h k z (fun Bg h=>?_) fun Bg h=>?_)
       · refine wr (pN 1 k z fun a k=>nn (wp_ret (rt_block (rt_then (rt_then (rt_block (rt_then ?_)))))))
         refine fS h k m z z
       refine wp_skip (nm_block (nm_then ?_))
       exact ⟨k.keep [1,3] z,m.sel [0] z (by decide),h⟩
     refine wp_exit (ex_then (ex_then (ex_same (nm_then ?_))))
     refine wp_seq (wr (pN 1 k z fun a k=>nn (wp_block (c_loop (fun n a w=>∃ (As:Int),K 111 [(1,.pointer (some (⟨Ab,0,none⟩:Addr))),(4,I As)] a ∧ St [] w0 w [([Ab],Am)] ∧ d_spec_BoundsOk_L2 fu r1 n As = some r) ?_ ?_ fu _ _ ?_))))
     · rintro a w ⟨_,_,_,h⟩
       exact nS h
     · rintro Ck a Bx ⟨As,k,m,h⟩
       rw [d_spec_BoundsOk_L2_s] at h
       unfold d_spec_BoundsOk_L2_B at h
       refine wp_seq (wr (pN 1 k z fun a k=>sv k z (r_fa fa38_4 k z z) fun a k=>sv k z (r_ldb t135 m 0 Aa 7 k z z z z z) fun a k=>sv k z (r_len (α:=Typ) Ai k underlying35 z z) fun a k=>pN 1 k z fun a k=>nn (cI h k z (fun Bc h=>?_) fun Bc h=>?_)))
       · refine wp_skip (nm_then ?_)
         refine wp_seq (wp_block (wr (sv k z (r_fa fa38_4 k z z) fun a k=>sv k z (r_ldb t135 m 0 Aa 7 k z z z z z) fun a k=>pN 1 k z fun a k=>oE h fun Bh Av h=>sv k z (r_ixa Ai Av k ts35 z z z) fun a k=>sv k z (r_lde Ai (m.a00 (Enc.rd_lt Ai)) Av ta79 k z z) fun a k=>oE h fun Cc Bi h=>cE k m call260 z z z (c_spec_TypeOk fu (Bh:Typ)  Bi) fun Cm e a k m=>pN 1 k z fun a k=>nn (cI h k z (fun Bl h=>?_) fun Bl h=>?_))))
         · refine wr (pN 1 k z fun a k=>nn (wp_ret (rt_block (rt_then (rt_then (rt_block (rt_then ?_)))))))
           refine fS h k m z z
         refine wp_skip (nm_block (nm_then ?_))
         refine wp_region_lit (pN 3 k z fun a k=>nn ?_)
         exact ⟨w64 (As + 1),k.keep [1,4] z,m.sel [0] z (by decide),h⟩
       refine wp_exit (ex_then (ex_then (ex_same (nm_then ?_))))
       refine wr (pN 1 k z fun a k=>nn (wp_seq (wr (pN 1 k z fun a k=>nn (wp_block (c_loop (fun n a w=>∃ (At:Int) (Ar:Int),K 111 [(1,.pointer (some (⟨Ab,0,none⟩:Addr))),(5,I At),(6,I Ar)] a ∧ St [] w0 w [([Ab],Am)] ∧ d_spec_BoundsOk_L1 fu r1 n At Ar = some r) ?_ ?_ fu _ _ ?_))))))
       · rintro a w ⟨_,_,_,_,h⟩
         exact nS h
       · rintro Ch a Cu ⟨At,Ar,k,m,h⟩
         rw [d_spec_BoundsOk_L1_s] at h
         unfold d_spec_BoundsOk_L1_B at h
         refine wp_seq (wr (pN 1 k z fun a k=>sv k z (r_fa fa38_6 k z z) fun a k=>sv k z (r_ldb t136 m 0 Aa 9 k z z z z z) fun a k=>sv k z (r_len (α:=Item) Ad k underlying36 z z) fun a k=>pN 1 k z fun a k=>nn (cI h k z (fun Bd h=>?_) fun Bd h=>?_)))
         · refine wp_skip (nm_then ?_)
           refine wp_seq (wp_block (wp_seq (wr (sv k z (r_fa fa38_6 k z z) fun a k=>sv k z (r_ldb t136 m 0 Aa 9 k z z z z z) fun a k=>pN 1 k z fun a k=>oE h fun Au Ap h=>sv k z (r_ixa Ad Ap k ts36 z z z) fun a k=>sv k z (r_lde Ad (m.a00 (Enc.rd_lt Ad)) Ap ta158 k z z) fun a k=>oE h fun Cl Be h=>cE k m call261 z z z (c_spec_ItemOk fu (Au:Item)  Be) fun Ct e a k m=>pN 1 k z fun a k=>nn (cI h k z (fun Bj h=>?_) fun Bj h=>?_)))))
           · refine wr (pN 1 k z fun a k=>nn (wp_ret (rt_then (rt_block (rt_then (rt_then (rt_block (rt_then ?_))))))))
             refine fS h k m z z
           refine wp_skip (nm_then ?_)
           refine wp_region_lit (pN 1 k z fun a k=>sv k z (r_fa fa38_6 k z z) fun a k=>sv k z (r_ldb t136 m 0 Aa 9 k z z z z z) fun a k=>pN 1 k z fun a k=>oE h fun Ci Ce h=>sv k z (r_ixa Ad Ap k ts36 z z z) fun a k=>sv k z (r_fa fa158_6 k z z) fun a k=>sv k z (r_lde1 Ad (m.a00 (Enc.rd_lt Ad)) Ap 6 t13 k z z z z) fun a k=>pN 2 k z fun a k=>wpList_nil (nm_block (nm_then ?_)))
           refine wp_region_lit (pN 3 k z fun a k=>nn ?_)
           exact ⟨w64 (At + Au.fCount),w64 (Ar + 1),k.keep [1,5,6] z,m.sel [0] z (by decide),h⟩
         refine wp_exit (ex_then (ex_then (ex_same (nm_then ?_))))
         refine wr (pN 3 k z fun a k=>nn (wp_ret (fS h k m z z)))
       exact ⟨0,0,k.keep [1,5,6] z,m.sel [0] z (by decide),h⟩
     exact ⟨0,k.keep [1,4] z,m.sel [0] z (by decide),h⟩
   exact ⟨0,k.keep [1,3] z,m.sel [0] z (by decide),h⟩
 refine wr (sv k z (r_fa fa38_0 k z z) fun a k=>sv k z (r_ldb t13 m 0 Aa 0 k z z z z z) fun a k=>oE h fun Bp Bu h=>cE k m call130 z z z (c_spec_l1In fu _ _ _  Bu) fun Cs e a k m=>pN 2 k z fun a k=>bsplit (!Bp) (fun Af=>?_) (fun Af=>?_))
 · have h:=bif_t Af h
   refine rB k 11 z Af fun k=>pN 36 k z fun a k=>?_
   have k:=k.keep [1,47] z
   refine nn (wp_cond_true (k.ev z) (wr (pN 1 k z fun a k=>nn (wp_ret (rt_then ?_)))))
   refine fS h k m z z
 have h:=bif_f Af h
 refine rB k 11 z Af fun k=>sv k z (r_fa fa38_1 k z z) fun a k=>sv k z (r_ldB ta33 m 0 Aa 1 k z z z z z z) fun a k=>oE h fun Bb Bk h=>cE k m call258 z z z (c_spec_PalletOk fu (r1.fPallet:Pallet)  Bk) fun Cd e a k m=>pN 3 k z fun a k=>bsplit (!Bb) (fun Ak=>?_) (fun Ak=>?_)
 · have h:=bif_t Ak h
   refine rB k 17 z Ak fun k=>pN 30 k z fun a k=>?_
   have k:=k.keep [1,47] z
   refine nn (wp_cond_true (k.ev z) (wr (pN 1 k z fun a k=>nn (wp_ret (rt_then ?_)))))
   refine fS h k m z z
 have h:=bif_f Ak h
 refine rB k 17 z Ak fun k=>sv k z (r_fa fa38_2 k z z) fun a k=>sv k z (r_ldb t13 m 0 Aa 5 k z z z z z) fun a k=>oE h fun Bo Bs h=>cE k m call130 z z z (c_spec_l1In fu _ _ _  Bs) fun Cq e a k m=>pN 3 k z fun a k=>bsplit (!Bo) (fun Ag=>?_) (fun Ag=>?_)
 · have h:=bif_t Ag h
   refine rB k 23 z Ag fun k=>pN 24 k z fun a k=>?_
   have k:=k.keep [1,47] z
   refine nn (wp_cond_true (k.ev z) (wr (pN 1 k z fun a k=>nn (wp_ret (rt_then ?_)))))
   refine fS h k m z z
 have h:=bif_f Ag h
 refine rB k 23 z Ag fun k=>sv k z (r_fa fa38_3 k z z) fun a k=>sv k z (r_ldb t134 m 0 Aa 6 k z z z z z) fun a k=>sv k z (r_len (α:=Pair) Ac k underlying34 z z) fun a k=>pN 3 k z fun a k=>bsplit (decide (((r1.fPairs.length:Int)) > 16)) (fun Ao=>?_) (fun Ao=>?_)
 · have h:=bif_t Ao h
   refine rB k 29 z Ao fun k=>pN 18 k z fun a k=>?_
   have k:=k.keep [1,47] z
   refine nn (wp_cond_true (k.ev z) (wr (pN 1 k z fun a k=>nn (wp_ret (rt_then ?_)))))
   refine fS h k m z z
 have h:=bif_f Ao h
 refine rB k 29 z Ao fun k=>sv k z (r_fa fa38_4 k z z) fun a k=>sv k z (r_ldb t135 m 0 Aa 7 k z z z z z) fun a k=>sv k z (r_len (α:=Typ) Ai k underlying35 z z) fun a k=>oE h fun Bf Az h=>cE k m call130 z z z (c_spec_l1In fu _ _ _  Az) fun Cn e a k m=>pN 3 k z fun a k=>bsplit (!Bf) (fun Al=>?_) (fun Al=>?_)
 · have h:=bif_t Al h
   refine rB k 36 z Al fun k=>pN 11 k z fun a k=>?_
   have k:=k.keep [1,47] z
   refine nn (wp_cond_true (k.ev z) (wr (pN 1 k z fun a k=>nn (wp_ret (rt_then ?_)))))
   refine fS h k m z z
 have h:=bif_f Al h
 refine rB k 36 z Al fun k=>sv k z (r_fa fa38_5 k z z) fun a k=>sv k z (r_ldb t13 m 0 Aa 8 k z z z z z) fun a k=>oE h fun Bq Ay h=>cE k m call259 z z z (c_spec_l2Id fu _  Ay) fun Cf e a k m=>pN 3 k z fun a k=>bsplit (!Bq) (fun Ah=>?_) (fun Ah=>?_)
 · have h:=bif_t Ah h
   refine rB k 42 z Ah fun k=>pN 5 k z fun a k=>?_
   have k:=k.keep [1,47] z
   refine nn (wp_cond_true (k.ev z) (wr (pN 1 k z fun a k=>nn (wp_ret (rt_then ?_)))))
   refine fS h k m z z
 have h:=bif_f Ah h
 refine rB k 42 z Ah fun k=>sv k z (r_fa fa38_6 k z z) fun a k=>sv k z (r_ldb t136 m 0 Aa 9 k z z z z z) fun a k=>sv k z (r_len (α:=Item) Ad k underlying36 z z) fun a k=>pN 2 k z fun a k=>?_
 have k:=k.keep [1,47] z
 refine nn (cI h k z (fun Ba h=>?_) fun Ba h=>?_)
 · refine wr (pN 1 k z fun a k=>nn (wp_ret (rt_then ?_)))
   refine fS h k m z z
 refine wp_skip (nm_then ?_)
 exact ⟨k.keep [1] z,m.sel [0] z (by decide),h⟩
theorem c_spec_MasterOf (fu:Nat) {w0:World} (r1:Request) {Ai:List Value} {F3:List Nat} (Aq:rd w0 F3 Ai r1) {r:Typ × Bool}
    (h:d_spec_MasterOf fu r1 = some r) :
    Calls Tryz.prog 89 #[.agg Ai.toArray] w0 fun e w=>e = .returned (.tuple #[.agg (Flat.e r.1).toArray,.bool (r.2)]) ∧ Ext [] w0 w:=by
 refine enter (vs:=[_]) func89 z ntmps89 z fun a k=>?_
 have m:=St.start w0
 obtain ⟨v5,F6,v7,F8,v9,As,rfl,rfl,Ay,Aa,Az⟩:=Aq
 unfold d_spec_MasterOf at h
 refine wr (s_box (cs:=[I r1.fWay,I r1.fPallet.fW,I r1.fPallet.fD,I r1.fPallet.fH,I r1.fPallet.fGram,I r1.fClasses,v5,v7,I r1.fMaster,v9]) m k z z z z z z fun Ag Ao a k m e Ad=>s_alloc (cs:=[I 0,I 0,I 0,I 0,I 0,I 0,I 0]) m k zeroValue79 z z z z z fun Af Aj a k m e Ah=>pN 1 k z fun a k=>nn (wp_seq (wr (pN 1 k z fun a k=>nn (wp_block (c_loop (fun n a w=>∃ (Ae:Int),K 27 [(1,.pointer (some (⟨Ag,0,none⟩:Addr))),(2,.pointer (some (⟨Af,0,none⟩:Addr))),(4,I Ae)] a ∧ St [] w0 w [([Ag],Ao),([Af],Aj)] ∧ d_spec_MasterOf_L1 fu r1 n Ae = some r) ?_ ?_ fu _ _ ?_))))))
 · rintro a w ⟨_,_,_,h⟩
   exact nS h
 · rintro Av a Aw ⟨Ae,k,m,h⟩
   rw [d_spec_MasterOf_L1_s] at h
   unfold d_spec_MasterOf_L1_B at h
   refine wp_seq (wr (pN 1 k z fun a k=>sv k z (r_fa fa38_4 k z z) fun a k=>sv k z (r_ldb t135 m 0 Ad 7 k z z z z z) fun a k=>sv k z (r_len (α:=Typ) Aa k underlying35 z z) fun a k=>pN 1 k z fun a k=>nn (cI h k z (fun Am h=>?_) fun Am h=>?_)))
   · refine wp_skip (nm_then ?_)
     refine wp_seq (wp_block (wp_seq (d_go [] mixo m z fun Ak hMd=>?_)))
     have m:=hMd
     have s:=Ext.refl ([]:List Nat) Ak
     refine dN [2] 1 z k (by kernel_rfl) z s (fun _ _ _ _ _=>id) fun a k=>dt k 0 z (by kernel_rfl) z s (fun _ _ _=>id) (fun w s=>r_fa fa38_4 k z z) fun a k=>dt k 1 z (by kernel_rfl) z s (fun _ _ _=>id) (fun w s=>r_ld1 t135 (r:=[]) (Ad.at ((hMd.step s).a 0 z) 7 1 z z z) k z z) fun a k=>oE h fun Ab Ac h=>dt k 3 z (by kernel_rfl) z s (fun _ _ _=>id) (fun w s=>r_ixa Aa Ac k ts35 z z z) fun a k=>dt k 4 z (by kernel_rfl) z s (fun _ _ _=>id) (fun w s=>r_fa fa79_0 k z z) fun a k=>dt k 5 z (by kernel_rfl) z s (fun _ _ _=>id) (fun w s=>r_lde1 Aa ((hMd.step s).a00 (Enc.rd_lt Aa)) Ac 0 t13 k z z z z) fun a k=>dt k 6 z (by kernel_rfl) z s (fun _ _ _=>id) (fun w s=>r_fa fa38_5 k z z) fun a k=>?_
     refine dt k 7 z (by kernel_rfl) z s (fun _ _ _=>id) (fun w s=>r_ld1 t13 (r:=[]) (Ad.at ((hMd.step s).a 0 z) 8 1 z z z) k z z) fun a k=>dN [8] 1 z k (by kernel_rfl) z s (fun _ _ _ _ _=>id) fun a k=>d_done (by kernel_rfl) ((nm_then ?_))
     refine cI h k z (fun Ap h=>?_) fun Ap h=>?_
     · refine wr (sv k z (r_fa fa38_4 k z z) fun a k=>sv k z (r_ldb t135 m 0 Ad 7 k z z z z z) fun a k=>pN 1 k z fun a k=>oE h fun At Au h=>sv k z (r_ixa Aa Ac k ts35 z z z) fun a k=>sv k z (r_lde Aa (m.a00 (Enc.rd_lt Aa)) Ac ta79 k z z) fun a k=>s_stb (cs':=[I Ab.fId,I Ab.fW,I Ab.fH,I Ab.fD,I Ab.fTare,I Ab.fGram,I Ab.fCost]) sizeOf79 m 1 Ah 0 k z z z z z z z z z z z fun Ba a k e m Al=>pN 1 k z fun a k=>nn (wp_ret (rt_block (rt_then (rt_then (rt_block (rt_then ?_)))))))
       cases h
       exact finR2 k z (RV.cA k z ta79 (Al.at (m.a 1 z) 0 7 z z z) z) (RV.tmp k z) ⟨z,m.ext⟩
     refine wp_skip (nm_block (nm_then ?_))
     refine wp_region_lit (pN 3 k z fun a k=>nn ?_)
     exact ⟨w64 (Ae + 1),k.keep [1,2,4] z,m.sel [0,1] z (by decide),h⟩
   refine wp_exit (ex_then (ex_then (ex_same (nm_then ?_))))
   refine wr (sv k z (r_build bt79 k (cs:=#[I 0,I 0,I 0,I 0,I 0,I 0,I 0]) (ps:=[]) z z (by kernel_rfl)) fun a k=>s_stb (cs':=[I 0,I 0,I 0,I 0,I 0,I 0,I 0]) sizeOf79 m 1 Ah 0 k z z z z z z z z z z z fun Ax a k e m Ar=>pN 1 k z fun a k=>nn (wp_ret ?_))
   cases h
   exact finR2 k z (RV.cA k z ta79 (Ar.at (m.a 1 z) 0 7 z z z) z) (RV.tmp k z) ⟨z,m.ext⟩
 exact ⟨0,k.keep [1,2,4] z,m.sel [1,0] z (by decide),h⟩
theorem c_spec_l5Names (fu:Nat) {w0:World} (r1:Request) {Au:List Value} {F3:List Nat} (Bj:rd w0 F3 Au r1) {r:Bool}
    (h:d_spec_l5Names fu r1 = some r) :
    Calls Tryz.prog 188 #[.agg Au.toArray] w0 fun e w=>e = .returned (.bool (r)) ∧ Ext [] w0 w:=by
 refine enter (vs:=[_]) func188 z ntmps188 z fun a k=>?_
 have m:=St.start w0
 obtain ⟨v5,F6,v7,F8,v9,Bp,rfl,rfl,Ae,Ad,Ac⟩:=Bj
 unfold d_spec_l5Names at h
 refine wr (s_box (cs:=[I r1.fWay,I r1.fPallet.fW,I r1.fPallet.fD,I r1.fPallet.fH,I r1.fPallet.fGram,I r1.fClasses,v5,v7,I r1.fMaster,v9]) m k z z z z z z fun Ab Ai a k m e Aa=>pN 1 k z fun a k=>nn (wp_seq (wr (pN 1 k z fun a k=>nn (wp_block (c_loop (fun n a w=>∃ (Aj:Int),K 102 [(1,.pointer (some (⟨Ab,0,none⟩:Addr))),(3,I Aj)] a ∧ St [] w0 w [([Ab],Ai)] ∧ d_spec_l5Names_L5 fu r1 n Aj = some r) ?_ ?_ fu _ _ ?_))))))
 · rintro a w ⟨_,_,_,h⟩
   exact nS h
 · rintro Bd a Cg ⟨Aj,k,m,h⟩
   rw [d_spec_l5Names_L5_s] at h
   unfold d_spec_l5Names_L5_B at h
   refine wp_seq (wr (pN 1 k z fun a k=>sv k z (r_fa fa38_4 k z z) fun a k=>sv k z (r_ldb t135 m 0 Aa 7 k z z z z z) fun a k=>sv k z (r_len (α:=Typ) Ad k underlying35 z z) fun a k=>pN 1 k z fun a k=>nn (cI h k z (fun Bo h=>?_) fun Bo h=>?_)))
   · refine wp_skip (nm_then ?_)
     refine wp_seq (wp_block (wr (pN 1 k z fun a k=>nn (wp_block (c_loop (fun n a w=>∃ (Am:Int),K 102 [(1,.pointer (some (⟨Ab,0,none⟩:Addr))),(3,I Aj),(4,I Am)] a ∧ St [] w0 w [([Ab],Ai)] ∧ d_spec_l5Names_L1 fu (d_spec_l5Names_L5 fu r1 Bd) r1 Aj n Am = some r) ?_ ?_ fu _ _ ?_)))))
     · rintro a w ⟨_,_,_,h⟩
       exact nS h
     · rintro Ci a Cd ⟨Am,k,m,h⟩
       rw [d_spec_l5Names_L1_s] at h
       unfold d_spec_l5Names_L1_B at h
       refine wp_seq (wr (pN 3 k z fun a k=>nn (cI h k z (fun Ay h=>?_) fun Ay h=>?_)))
       · refine wp_skip (nm_then ?_)
         refine wp_seq (wp_block (wp_seq (d_go [] mixo m z fun Bm hMd=>?_)))
         have m:=hMd
         have s:=Ext.refl ([]:List Nat) Bm
         refine dN [2,8] 2 z k (by kernel_rfl) z s (fun _ _ _ _ _=>id) fun a k=>dt k 0 z (by kernel_rfl) z s (fun _ _ _=>id) (fun w s=>r_fa fa38_4 k z z) fun a k=>dt k 1 z (by kernel_rfl) z s (fun _ _ _=>id) (fun w s=>r_ld1 t135 (r:=[]) (Aa.at ((hMd.step s).a 0 z) 7 1 z z z) k z z) fun a k=>oE h fun Ca As h=>dt k 3 z (by kernel_rfl) z s (fun _ _ _=>id) (fun w s=>r_ixa Ad As k ts35 z z z) fun a k=>dt k 4 z (by kernel_rfl) z s (fun _ _ _=>id) (fun w s=>r_fa fa79_0 k z z) fun a k=>dt k 5 z (by kernel_rfl) z s (fun _ _ _=>id) (fun w s=>r_lde1 Ad ((hMd.step s).a00 (Enc.rd_lt Ad)) As 0 t13 k z z z z) fun a k=>dt k 6 z (by kernel_rfl) z s (fun _ _ _=>id) (fun w s=>r_fa fa38_4 k z z) fun a k=>?_
         refine dt k 7 z (by kernel_rfl) z s (fun _ _ _=>id) (fun w s=>r_ld1 t135 (r:=[]) (Aa.at ((hMd.step s).a 0 z) 7 1 z z z) k z z) fun a k=>oE h fun Ch Aq h=>dt k 9 z (by kernel_rfl) z s (fun _ _ _=>id) (fun w s=>r_ixa Ad Aq k ts35 z z z) fun a k=>dt k 10 z (by kernel_rfl) z s (fun _ _ _=>id) (fun w s=>r_fa fa79_0 k z z) fun a k=>dt k 11 z (by kernel_rfl) z s (fun _ _ _=>id) (fun w s=>r_lde1 Ad ((hMd.step s).a00 (Enc.rd_lt Ad)) Aq 0 t13 k z z z z) fun a k=>dN [12] 1 z k (by kernel_rfl) z s (fun _ _ _ _ _=>id) fun a k=>d_done (by kernel_rfl) ((nm_then ?_))
         refine cI h k z (fun Aw h=>?_) fun Aw h=>?_
         · refine wr (pN 1 k z fun a k=>nn (wp_ret (rt_block (rt_then (rt_then (rt_block (rt_block (rt_then (rt_then (rt_block (rt_then ?_)))))))))))
           refine fS h k m z z
         refine wp_skip (nm_block (nm_then ?_))
         refine wp_region_lit (pN 3 k z fun a k=>nn ?_)
         exact ⟨w64 (Am + 1),k.keep [1,3,4] z,m.sel [0] z (by decide),h⟩
       refine wp_exit (ex_then (ex_then (ex_same (nm_block (nm_then ?_)))))
       refine wp_region_lit (pN 3 k z fun a k=>nn ?_)
       exact ⟨w64 (Aj + 1),k.keep [1,3] z,m.sel [0] z (by decide),h⟩
     exact ⟨0,k.keep [1,3,4] z,m.sel [0] z (by decide),h⟩
   refine wp_exit (ex_then (ex_then (ex_same (nm_then ?_))))
   refine wp_seq (wr (pN 1 k z fun a k=>nn (wp_block (c_loop (fun n a w=>∃ (Ag:Int),K 102 [(1,.pointer (some (⟨Ab,0,none⟩:Addr))),(5,I Ag)] a ∧ St [] w0 w [([Ab],Ai)] ∧ d_spec_l5Names_L4 fu r1 n Ag = some r) ?_ ?_ fu _ _ ?_))))
   · rintro a w ⟨_,_,_,h⟩
     exact nS h
   · rintro Bf a Bz ⟨Ag,k,m,h⟩
     rw [d_spec_l5Names_L4_s] at h
     unfold d_spec_l5Names_L4_B at h
     refine wp_seq (wr (pN 1 k z fun a k=>sv k z (r_fa fa38_6 k z z) fun a k=>sv k z (r_ldb t136 m 0 Aa 9 k z z z z z) fun a k=>sv k z (r_len (α:=Item) Ac k underlying36 z z) fun a k=>pN 1 k z fun a k=>nn (cI h k z (fun Bb h=>?_) fun Bb h=>?_)))
     · refine wp_skip (nm_then ?_)
       refine wp_seq (wp_block (wp_seq (wp_seq (d_go [] mixo m z fun Bc hMd=>?_))))
       have m:=hMd
       have s:=Ext.refl ([]:List Nat) Bc
       refine dN [2] 1 z k (by kernel_rfl) z s (fun _ _ _ _ _=>id) fun a k=>dt k 0 z (by kernel_rfl) z s (fun _ _ _=>id) (fun w s=>r_fa fa38_6 k z z) fun a k=>dt k 1 z (by kernel_rfl) z s (fun _ _ _=>id) (fun w s=>r_ld1 t136 (r:=[]) (Aa.at ((hMd.step s).a 0 z) 9 1 z z z) k z z) fun a k=>oE h fun Cc At h=>dt k 3 z (by kernel_rfl) z s (fun _ _ _=>id) (fun w s=>r_ixa Ac At k ts36 z z z) fun a k=>dt k 4 z (by kernel_rfl) z s (fun _ _ _=>id) (fun w s=>r_fa fa158_5 k z z) fun a k=>dt k 5 z (by kernel_rfl) z s (fun _ _ _=>id) (fun w s=>r_lde1 Ac ((hMd.step s).a00 (Enc.rd_lt Ac)) At 5 t13 k z z z z) fun a k=>dt k 6 z (by kernel_rfl) z s (fun _ _ _=>id) (fun w s=>r_fa fa38_2 k z z) fun a k=>?_
       refine dt k 7 z (by kernel_rfl) z s (fun _ _ _=>id) (fun w s=>r_ld1 t13 (r:=[]) (Aa.at ((hMd.step s).a 0 z) 5 1 z z z) k z z) fun a k=>dN [8] 1 z k (by kernel_rfl) z s (fun _ _ _ _ _=>id) fun a k=>d_done (by kernel_rfl) ((nm_then ?_))
       refine cI h k z (fun Bn h=>?_) fun Bn h=>?_
       · refine wr (pN 1 k z fun a k=>nn (wp_ret (rt_then (rt_block (rt_then (rt_then (rt_block (rt_then ?_))))))))
         refine fS h k m z z
       refine wp_skip (nm_then ?_)
       refine wr (pN 1 k z fun a k=>nn (wp_block (c_loop (fun n a w=>∃ (Ao:Int),K 102 [(1,.pointer (some (⟨Ab,0,none⟩:Addr))),(5,I Ag),(6,I Ao)] a ∧ St [] w0 w [([Ab],Ai)] ∧ d_spec_l5Names_L2 fu (d_spec_l5Names_L4 fu r1 Bf) r1 Ag n Ao = some r) ?_ ?_ fu _ _ ?_)))
       · rintro a w ⟨_,_,_,h⟩
         exact nS h
       · rintro Cf a Bw ⟨Ao,k,m,h⟩
         rw [d_spec_l5Names_L2_s] at h
         unfold d_spec_l5Names_L2_B at h
         refine wp_seq (wr (pN 3 k z fun a k=>nn (cI h k z (fun Bi h=>?_) fun Bi h=>?_)))
         · refine wp_skip (nm_then ?_)
           refine wp_seq (wp_block (wp_seq (d_go [] mixo m z fun Az hMd=>?_)))
           have m:=hMd
           have s:=Ext.refl ([]:List Nat) Az
           refine dN [2,8] 2 z k (by kernel_rfl) z s (fun _ _ _ _ _=>id) fun a k=>dt k 0 z (by kernel_rfl) z s (fun _ _ _=>id) (fun w s=>r_fa fa38_6 k z z) fun a k=>dt k 1 z (by kernel_rfl) z s (fun _ _ _=>id) (fun w s=>r_ld1 t136 (r:=[]) (Aa.at ((hMd.step s).a 0 z) 9 1 z z z) k z z) fun a k=>oE h fun Bx Ap h=>dt k 3 z (by kernel_rfl) z s (fun _ _ _=>id) (fun w s=>r_ixa Ac Ap k ts36 z z z) fun a k=>dt k 4 z (by kernel_rfl) z s (fun _ _ _=>id) (fun w s=>r_fa fa158_0 k z z) fun a k=>dt k 5 z (by kernel_rfl) z s (fun _ _ _=>id) (fun w s=>r_lde1 Ac ((hMd.step s).a00 (Enc.rd_lt Ac)) Ap 0 t13 k z z z z) fun a k=>dt k 6 z (by kernel_rfl) z s (fun _ _ _=>id) (fun w s=>r_fa fa38_6 k z z) fun a k=>?_
           refine dt k 7 z (by kernel_rfl) z s (fun _ _ _=>id) (fun w s=>r_ld1 t136 (r:=[]) (Aa.at ((hMd.step s).a 0 z) 9 1 z z z) k z z) fun a k=>oE h fun Bq Ar h=>dt k 9 z (by kernel_rfl) z s (fun _ _ _=>id) (fun w s=>r_ixa Ac Ar k ts36 z z z) fun a k=>dt k 10 z (by kernel_rfl) z s (fun _ _ _=>id) (fun w s=>r_fa fa158_0 k z z) fun a k=>dt k 11 z (by kernel_rfl) z s (fun _ _ _=>id) (fun w s=>r_lde1 Ac ((hMd.step s).a00 (Enc.rd_lt Ac)) Ar 0 t13 k z z z z) fun a k=>dN [12] 1 z k (by kernel_rfl) z s (fun _ _ _ _ _=>id) fun a k=>d_done (by kernel_rfl) ((nm_then ?_))
           refine cI h k z (fun Av h=>?_) fun Av h=>?_
           · refine wr (pN 1 k z fun a k=>nn (wp_ret (rt_block (rt_then (rt_then (rt_block (rt_block (rt_then (rt_then (rt_block (rt_then ?_)))))))))))
             refine fS h k m z z
           refine wp_skip (nm_block (nm_then ?_))
           refine wp_region_lit (pN 3 k z fun a k=>nn ?_)
           exact ⟨w64 (Ao + 1),k.keep [1,5,6] z,m.sel [0] z (by decide),h⟩
         refine wp_exit (ex_then (ex_then (ex_same (nm_block (nm_then ?_)))))
         refine wp_region_lit (pN 3 k z fun a k=>nn ?_)
         exact ⟨w64 (Ag + 1),k.keep [1,5] z,m.sel [0] z (by decide),h⟩
       exact ⟨0,k.keep [1,5,6] z,m.sel [0] z (by decide),h⟩
     refine wp_exit (ex_then (ex_then (ex_same (nm_then ?_))))
     refine wp_seq (wr (pN 1 k z fun a k=>nn (wp_block (c_loop (fun n a w=>∃ (Ah:Int),K 102 [(1,.pointer (some (⟨Ab,0,none⟩:Addr))),(7,I Ah)] a ∧ St [] w0 w [([Ab],Ai)] ∧ d_spec_l5Names_L3 fu r1 n Ah = some r) ?_ ?_ fu _ _ ?_))))
     · rintro a w ⟨_,_,_,h⟩
       exact nS h
     · rintro Ax a Br ⟨Ah,k,m,h⟩
       rw [d_spec_l5Names_L3_s] at h
       unfold d_spec_l5Names_L3_B at h
       refine wp_seq (wr (pN 1 k z fun a k=>sv k z (r_fa fa38_3 k z z) fun a k=>sv k z (r_ldb t134 m 0 Aa 6 k z z z z z) fun a k=>sv k z (r_len (α:=Pair) Ae k underlying34 z z) fun a k=>pN 1 k z fun a k=>nn (cI h k z (fun Be h=>?_) fun Be h=>?_)))
       · refine wp_skip (nm_then ?_)
         refine c_cut (fun a w=>K 102 [(1,.pointer (some (⟨Ab,0,none⟩:Addr))),(7,I Ah)] a ∧ St [] w0 w [([Ab],Ai)] ∧ d_spec_l5Names_J1 fu (d_spec_l5Names_L3 fu r1 Ax) Ah = some r) ?_ ?_
         · rintro a Bu ⟨k,m,h⟩
           unfold d_spec_l5Names_J1 at h
           refine wp_region_lit (pN 3 k z fun a k=>nn ?_)
           exact ⟨w64 (Ah + 1),k.keep [1,7] z,m.sel [0] z (by decide),h⟩
         refine wp_block (wp_seq (d_go [] mixo m z fun Bg hMd=>?_))
         have m:=hMd
         have s:=Ext.refl ([]:List Nat) Bg
         refine dN [2] 1 z k (by kernel_rfl) z s (fun _ _ _ _ _=>id) fun a k=>dt k 0 z (by kernel_rfl) z s (fun _ _ _=>id) (fun w s=>r_fa fa38_3 k z z) fun a k=>dt k 1 z (by kernel_rfl) z s (fun _ _ _=>id) (fun w s=>r_ld1 t134 (r:=[]) (Aa.at ((hMd.step s).a 0 z) 6 1 z z z) k z z) fun a k=>oE h fun Bh Al h=>dt k 3 z (by kernel_rfl) z s (fun _ _ _=>id) (fun w s=>r_ixa Ae Al k ts34 z z z) fun a k=>dt k 4 z (by kernel_rfl) z s (fun _ _ _=>id) (fun w s=>r_fa fa180_0 k z z) fun a k=>dt k 5 z (by kernel_rfl) z s (fun _ _ _=>id) (fun w s=>r_lde1 Ae ((hMd.step s).a00 (Enc.rd_lt Ae)) Al 0 t13 k z z z z) fun a k=>dt k 6 z (by kernel_rfl) z s (fun _ _ _=>id) (fun w s=>r_fa fa38_2 k z z) fun a k=>?_
         refine dt k 7 z (by kernel_rfl) z s (fun _ _ _=>id) (fun w s=>r_ld1 t13 (r:=[]) (Aa.at ((hMd.step s).a 0 z) 5 1 z z z) k z z) fun a k=>dN [8,9] 2 z k (by kernel_rfl) z s (fun _ _ _ _ _=>id) fun a k=>bsplit (decide (Bh.fA ≥ r1.fClasses)) (fun Ak=>?_) (fun Ak=>?_)
         · have h:=bif_t Ak h
           refine rB k 85 z Ak fun k=>dN [10,11,12,13,14,15,16,17,18,19] 10 z k (by kernel_rfl) z s (fun _ _ _ _ _=>id) fun a k=>d_done (by kernel_rfl) ?_
           have k:=k.keep [1,7,95] z
           refine (nm_then ?_)
           refine wp_cond_true (k.ev z) (wr (pN 1 k z fun a k=>nn (wp_ret (rt_block (rt_then (rt_then (rt_block (rt_then ?_))))))))
           refine fS h k m z z
         have h:=bif_f Ak h
         refine rB k 85 z Ak fun k=>dN [12] 1 z k (by kernel_rfl) z s (fun _ _ _ _ _=>id) fun a k=>dt k 10 z (by kernel_rfl) z s (fun _ _ _=>id) (fun w s=>r_fa fa38_3 k z z) fun a k=>dt k 11 z (by kernel_rfl) z s (fun _ _ _=>id) (fun w s=>r_ld1 t134 (r:=[]) (Aa.at ((hMd.step s).a 0 z) 6 1 z z z) k z z) fun a k=>oE h fun Bs By h=>dt k 13 z (by kernel_rfl) z s (fun _ _ _=>id) (fun w s=>r_ixa Ae Al k ts34 z z z) fun a k=>dt k 14 z (by kernel_rfl) z s (fun _ _ _=>id) (fun w s=>r_fa fa180_1 k z z) fun a k=>dt k 15 z (by kernel_rfl) z s (fun _ _ _=>id) (fun w s=>r_lde1 Ae ((hMd.step s).a00 (Enc.rd_lt Ae)) Al 1 t13 k z z z z) fun a k=>dt k 16 z (by kernel_rfl) z s (fun _ _ _=>id) (fun w s=>r_fa fa38_2 k z z) fun a k=>?_
         refine dt k 17 z (by kernel_rfl) z s (fun _ _ _=>id) (fun w s=>r_ld1 t13 (r:=[]) (Aa.at ((hMd.step s).a 0 z) 5 1 z z z) k z z) fun a k=>dN [18,19] 2 z k (by kernel_rfl) z s (fun _ _ _ _ _=>id) fun a k=>d_done (by kernel_rfl) ?_
         have k:=k.keep [1,7,95] z
         refine (nm_then ?_)
         refine cI h k z (fun Bk h=>?_) fun Bk h=>?_
         · refine wr (pN 1 k z fun a k=>nn (wp_ret (rt_block (rt_then (rt_then (rt_block (rt_then ?_)))))))
           refine fS h k m z z
         refine wp_skip (nm_block (nm_then ?_))
         exact ⟨k.keep [1,7] z,m.sel [0] z (by decide),h⟩
       refine wp_exit (ex_then (ex_then (ex_same (nm_then ?_))))
       refine wr (sv k z (r_ldB ta38 m 0 Aa 0 k z z z z z z) fun a k=>oE h fun Af Ba h=>cE k m call89 z z z (c_spec_MasterOf fu _ (show rd _ _ [I r1.fWay,I r1.fPallet.fW,I r1.fPallet.fD,I r1.fPallet.fH,I r1.fPallet.fGram,I r1.fClasses,v5,v7,I r1.fMaster,v9] (r1:Request) from ⟨_,_,_,_,_,_,z,z,(Enc.rd_agr Ae (m.a00 (Enc.rd_lt Ae))),(Enc.rd_agr Ad (m.a00 (Enc.rd_lt Ad))),(Enc.rd_agr Ac (m.a00 (Enc.rd_lt Ac)))⟩) Ba) fun Cj e a k m=>pN 3 k z fun a k=>s_alloc (cs:=[I 0,I 0,I 0,I 0,I 0,I 0,I 0]) m k zeroValue79 z z z z z fun Ce Bt a k m e Bl=>?_)
       refine s_stb (cs':=[I Af.1.fId,I Af.1.fW,I Af.1.fH,I Af.1.fD,I Af.1.fTare,I Af.1.fGram,I Af.1.fCost]) sizeOf79 m 0 Bl 0 k z z z z z z z z z z z fun Bv a k e m Cb=>pN 1 k z fun a k=>nn (wr (pN 2 k z fun a k=>nn (wp_ret (fS h k m z z))))
     exact ⟨0,k.keep [1,7] z,m.sel [0] z (by decide),h⟩
   exact ⟨0,k.keep [1,5] z,m.sel [0] z (by decide),h⟩
 exact ⟨0,k.keep [1,3] z,m.sel [0] z (by decide),h⟩
theorem c_spec_Beside (fu:Nat) {w0:World} (Ae:List Pair) (a5:Int) (b6:Int) {v2:Value} {F3:List Nat} (Aa:rd w0 F3 [v2] Ae) {r:Bool}
    (h:d_spec_Beside fu Ae a5 b6 = some r) :
    Calls Tryz.prog 177 #[v2,I a5,I b6] w0 fun e w=>e = .returned (.bool (r)) ∧ Ext [] w0 w:=by
 refine enter (vs:=[_,_,_]) func177 z ntmps177 z fun a k=>?_
 have m:=St.start w0
 unfold d_spec_Beside at h
 refine wr (pN 1 k z fun a k=>nn (wp_seq (wr (pN 1 k z fun a k=>nn (wp_block (c_loop (fun n a w=>∃ (Ab:Int),K 30 [(0,v2),(1,I a5),(2,I b6),(7,I Ab)] a ∧ St [] w0 w [] ∧ d_spec_Beside_L1 fu Ae a5 b6 n Ab = some r) ?_ ?_ fu _ _ ?_))))))
 · rintro a w ⟨_,_,_,h⟩
   exact nS h
 · rintro Af a Am ⟨Ab,k,m,h⟩
   rw [d_spec_Beside_L1_s] at h
   unfold d_spec_Beside_L1_B at h
   refine wp_seq (wr (pN 2 k z fun a k=>sv k z (r_len (α:=Pair) Aa k underlying34 z z) fun a k=>pN 1 k z fun a k=>nn (cI h k z (fun Ai h=>?_) fun Ai h=>?_)))
   · refine wp_skip (nm_then ?_)
     refine c_cut (fun a w=>K 30 [(0,v2),(1,I a5),(2,I b6),(7,I Ab)] a ∧ St [] w0 w [] ∧ d_spec_Beside_J1 fu (d_spec_Beside_L1 fu Ae a5 b6 Af) Ab = some r) ?_ ?_
     · rintro a Aj ⟨k,m,h⟩
       unfold d_spec_Beside_J1 at h
       refine wp_region_lit (pN 3 k z fun a k=>nn ?_)
       exact ⟨w64 (Ab + 1),k.keep [0,1,2,7] z,m.sel [] z (by decide),h⟩
     refine wp_block (wr (pN 2 k z fun a k=>oE h fun Ag Ad h=>sv k z (r_ixa Aa Ad k ts34 z z z) fun a k=>sv k z (r_fa fa180_0 k z z) fun a k=>sv k z (r_lde1 Aa (m.a00 (Enc.rd_lt Aa)) Ad 0 t13 k z z z z) fun a k=>pN 3 k z fun a k=>bsplit (Ag.fA == a5) (fun Ac=>?_) (fun Ac=>?_)))
     · have h:=bif_t Ac h
       refine rB k 21 z Ac fun k=>pN 2 k z fun a k=>oE h fun Al Ak h=>sv k z (r_ixa Aa Ad k ts34 z z z) fun a k=>sv k z (r_fa fa180_1 k z z) fun a k=>sv k z (r_lde1 Aa (m.a00 (Enc.rd_lt Aa)) Ad 1 t13 k z z z z) fun a k=>pN 3 k z fun a k=>nn (cI h k z (fun Ah h=>?_) fun Ah h=>?_)
       · refine wr (pN 1 k z fun a k=>nn (wp_ret (rt_block (rt_then (rt_then (rt_block (rt_then ?_)))))))
         refine fS h k m z z
       refine wp_skip (nm_block (nm_then ?_))
       exact ⟨k.keep [0,1,2,7] z,m.sel [] z (by decide),h⟩
     have h:=bif_f Ac h
     refine rB k 21 z Ac fun k=>pN 8 k z fun a k=>nn (wp_cond_false (k.ev z) (wp_skip (nm_block (nm_then ?_))))
     exact ⟨k.keep [0,1,2,7] z,m.sel [] z (by decide),h⟩
   refine wp_exit (ex_then (ex_then (ex_same (nm_then ?_))))
   refine wr (pN 1 k z fun a k=>nn (wp_ret (fS h k m z z)))
 exact ⟨0,k.keep [0,1,2,7] z,m.sel [] z (by decide),h⟩
theorem c_spec_TableOk (fu:Nat) {w0:World} (Ae:List Pair) (Aa:Int) {v2:Value} {F3:List Nat} (Ab:rd w0 F3 [v2] Ae) {r:Bool}
    (h:d_spec_TableOk fu Ae Aa = some r) :
    Calls Tryz.prog 189 #[v2,I Aa] w0 fun e w=>e = .returned (.bool (r)) ∧ Ext [] w0 w:=by
 refine enter (vs:=[_,_]) func189 z ntmps189 z fun a k=>?_
 have m:=St.start w0
 unfold d_spec_TableOk at h
 refine wr (pN 1 k z fun a k=>nn (wp_seq (wr (pN 1 k z fun a k=>oE h fun x6 Ai h=>cE k m call130 z z z (c_spec_l1In fu _ _ _  Ai) fun w9 e a k m=>pN 1 k z fun a k=>nn (cI h k z (fun Aj h=>?_) fun Aj h=>?_)))))
 · refine wr (pN 1 k z fun a k=>nn (wp_ret (rt_then ?_)))
   refine fS h k m z z
 refine wp_skip (nm_then ?_)
 refine wp_seq (wr (pN 1 k z fun a k=>nn (wp_block (c_loop (fun n a w=>∃ (Ac:Int),K 41 [(0,v2),(1,I Aa),(5,I Ac)] a ∧ St [] w0 w [] ∧ d_spec_TableOk_L2 fu Ae Aa n Ac = some r) ?_ ?_ fu _ _ ?_))))
 · rintro a w ⟨_,_,_,h⟩
   exact nS h
 · rintro Ah a Bg ⟨Ac,k,m,h⟩
   rw [d_spec_TableOk_L2_s] at h
   unfold d_spec_TableOk_L2_B at h
   refine wp_seq (wr (pN 3 k z fun a k=>nn (cI h k z (fun Ao h=>?_) fun Ao h=>?_)))
   · refine wp_skip (nm_then ?_)
     refine wp_seq (wp_block (wr (pN 1 k z fun a k=>nn (wp_block (c_loop (fun n a w=>∃ (Ad:Int),K 41 [(0,v2),(1,I Aa),(5,I Ac),(6,I Ad)] a ∧ St [] w0 w [] ∧ d_spec_TableOk_L1 fu (d_spec_TableOk_L2 fu Ae Aa Ah) Ae Aa Ac n Ad = some r) ?_ ?_ fu _ _ ?_)))))
     · rintro a w ⟨_,_,_,h⟩
       exact nS h
     · rintro Am a Ay ⟨Ad,k,m,h⟩
       rw [d_spec_TableOk_L1_s] at h
       unfold d_spec_TableOk_L1_B at h
       refine wp_seq (wr (pN 3 k z fun a k=>nn (cI h k z (fun As h=>?_) fun As h=>?_)))
       · refine wp_skip (nm_then ?_)
         refine c_cut (fun a w=>K 41 [(0,v2),(1,I Aa),(5,I Ac),(6,I Ad)] a ∧ St [] w0 w [] ∧ d_spec_TableOk_J1 fu (d_spec_TableOk_L1 fu (d_spec_TableOk_L2 fu Ae Aa Ah) Ae Aa Ac Am) Ad = some r) ?_ ?_
         · rintro a Bc ⟨k,m,h⟩
           unfold d_spec_TableOk_J1 at h
           refine wp_region_lit (pN 3 k z fun a k=>nn ?_)
           exact ⟨w64 (Ad + 1),k.keep [0,1,5,6] z,m.sel [] z (by decide),h⟩
         refine wp_block (wr (pN 4 k z fun a k=>bsplit (Ac == Ad) (fun Ag=>?_) (fun Ag=>?_)))
         · have h:=bif_t Ag h
           refine rB k 23 z Ag fun k=>pN 3 k z fun a k=>oE h fun Av Aq h=>cE k m call177 z z z (c_spec_Beside fu _ _ _ (Enc.rd_agr Ab (m.a00 (Enc.rd_lt Ab))) Aq) fun Be e a k m=>pN 3 k z fun a k=>bsplit (!Av) (fun Af=>?_) (fun Af=>?_)
           · have h:=bif_t Af h
             refine rB k 30 z Af fun k=>pN 10 k z fun a k=>nn (wp_cond_true (k.ev z) (wr (pN 1 k z fun a k=>?_)))
             have k:=k.keep [4] z
             refine nn (wp_ret (rt_block (rt_then (rt_then (rt_block (rt_block (rt_then (rt_then (rt_block (rt_then ?_))))))))))
             refine fS h k m z z
           have h:=bif_f Af h
           refine rB k 30 z Af fun k=>pN 3 k z fun a k=>oE h fun Az Ak h=>cE k m call177 z z z (c_spec_Beside fu _ _ _ (Enc.rd_agr Ab (m.a00 (Enc.rd_lt Ab))) Ak) fun Ax e a k m=>pN 3 k z fun a k=>oE h fun Bd At h=>cE k m call177 z z z (c_spec_Beside fu _ _ _ (Enc.rd_agr Ab (m.a00 (Enc.rd_lt Ab))) At) fun Bh e a k m=>sv k z (r_neb k underlying4 z z z) fun a k=>pN 1 k z fun a k=>nn (cI h k z (fun Ap h=>?_) fun Ap h=>?_)
           · refine wr (pN 1 k z fun a k=>?_)
             have k:=k.keep [4] z
             refine nn (wp_ret (rt_block (rt_then (rt_then (rt_block (rt_block (rt_then (rt_then (rt_block (rt_then ?_))))))))))
             refine fS h k m z z
           refine wp_skip (nm_block (nm_then ?_))
           exact ⟨k.keep [0,1,5,6] z,m.sel [] z (by decide),h⟩
         have h:=bif_f Ag h
         refine rB k 23 z Ag fun k=>pN 10 k z fun a k=>oE h fun Aw Au h=>cE k m call177 z z z (c_spec_Beside fu _ _ _ (Enc.rd_agr Ab (m.a00 (Enc.rd_lt Ab))) Au) fun Bb e a k m=>pN 3 k z fun a k=>oE h fun Ba Al h=>cE k m call177 z z z (c_spec_Beside fu _ _ _ (Enc.rd_agr Ab (m.a00 (Enc.rd_lt Ab))) Al) fun Bf e a k m=>sv k z (r_neb k underlying4 z z z) fun a k=>pN 1 k z fun a k=>nn (cI h k z (fun Ar h=>?_) fun Ar h=>?_)
         · refine wr (pN 1 k z fun a k=>?_)
           have k:=k.keep [4] z
           refine nn (wp_ret (rt_block (rt_then (rt_then (rt_block (rt_block (rt_then (rt_then (rt_block (rt_then ?_))))))))))
           refine fS h k m z z
         refine wp_skip (nm_block (nm_then ?_))
         exact ⟨k.keep [0,1,5,6] z,m.sel [] z (by decide),h⟩
       refine wp_exit (ex_then (ex_then (ex_same (nm_block (nm_then ?_)))))
       refine wp_region_lit (pN 3 k z fun a k=>nn ?_)
       exact ⟨w64 (Ac + 1),k.keep [0,1,5] z,m.sel [] z (by decide),h⟩
     exact ⟨0,k.keep [0,1,5,6] z,m.sel [] z (by decide),h⟩
   refine wp_exit (ex_then (ex_then (ex_same (nm_then ?_))))
   refine wr (pN 1 k z fun a k=>nn (wp_ret (fS h k m z z)))
 exact ⟨0,k.keep [0,1,5] z,m.sel [] z (by decide),h⟩
theorem c_spec_l1Places (fu:Nat) {w0:World} (n1:Int)  {r:(List Int)}
    (h:d_spec_l1Places fu n1 = some r) :
    Calls Tryz.prog 176 #[I n1] w0 fun e w=>∃ (v0:Value) (G0:List Nat),e = .returned (v0) ∧ Ext [] w0 w ∧ ow w G0 [v0] r ∧ (∀ b ∈ G0,w0.heap.size ≤ b):=by
 refine enter (vs:=[_]) func176 z ntmps176 z fun a k=>?_
 have m:=St.start w0
 unfold d_spec_l1Places at h
 refine wr (pN 1 k z fun a k=>nn (wr (s_bs (cs:=[]) (ps:=[]) te63 m k z z z z z z z (by decide) z (by exact (List.forall_mem_nil _)) fun g2 w3 e5 a k m e Aj=>?_)))
 have Aq:=ow_bx Aj ([]:List Int) z z z
 refine pN 1 k z fun a k=>nn (wp_seq (wr (pN 1 k z fun a k=>nn (wp_block (c_loop (fun n a w=>∃ (Ac:List Int) (Ad:Value) (Ab:List Nat) (Ae:World) (Aa:Int),K 16 [(0,I n1),(3,Ad),(4,I Aa)] a ∧ St [] w0 w [(Ab,Ae)] ∧ ow Ae Ab [Ad] Ac ∧ d_spec_l1Places_L1 fu n1 n Ac Aa = some r) ?_ ?_ fu _ _ ?_)))))
 · rintro a w ⟨_,_,_,_,_,_,_,_,h⟩
   exact nS h
 · rintro Au a Av ⟨Ac,Ad,Ab,Ae,Aa,k,m,Af,h⟩
   rw [d_spec_l1Places_L1_s] at h
   unfold d_spec_l1Places_L1_B at h
   refine wp_seq (wr (pN 3 k z fun a k=>nn (cI h k z (fun Al h=>?_) fun Al h=>?_)))
   · refine wp_skip (nm_then ?_)
     refine wp_seq (wp_block (wp_region_lit (pN 2 k z fun a k=>s_bs (cs:=[I Aa]) (ps:=[(0,.tmp 12)]) te63 m k z z z z z z z (by decide) z (by exact (List.forall_mem_cons.2 ⟨z,(List.forall_mem_nil _)⟩)) fun As At Aw a k m e Ap=>?_)))
     have Am:=ow_bx Ap ([Aa]:List Int) z z z
     refine oE h fun Ar Ag h=>s_appF Ag te63 z m 1 Af (News.rd (Enc.rd_agr (Enc.ow_rd Am) (m.a 0 z))) z z k z z z z z z z fun Ak Ai Ao a k e m Ah=>pN 1 k z fun a k=>wpList_nil (nm_block (nm_then ?_))
     refine wp_region_lit (pN 3 k z fun a k=>nn ?_)
     exact ⟨Ar,Ak,Ai,Ao,w64 (Aa + 1),k.keep [0,3,4] z,m.sel [1] z (by decide),Ah,h⟩
   refine wp_exit (ex_then (ex_then (ex_same (nm_then ?_))))
   refine wr (pN 2 k z fun a k=>nn (wp_ret ?_))
   cases h
   exact finR1 k z (RV.tmp k z) ⟨_,Ab,z,m.ext,(Enc.ow_agr Af (m.a 0 z)),(m.fresh 0 z)⟩
 exact ⟨([]:List Int),(.slice (some ⟨g2,0,none⟩) 0 0),[g2],w3,0,k.keep [0,3,4] z,m.sel [0] z (by decide),Aq,h⟩
theorem c_spec_l1Merge_R (fu:Nat):∀ (nr:Nat) {w0:World} (Ap:List Int) (Bf:List Int) (Ai:Bool) {v2:Value} {F3:List Nat} (Aa:rd w0 F3 [v2] Ap) {v6:Value} {F7:List Nat} (Ak:rd w0 F7 [v6] Bf) {r:(List Int)} (h:d_spec_l1Merge_R fu nr Ap Bf Ai = some r),Calls Tryz.prog 265 #[v2,v6,.bool (Ai)] w0 fun e w=>∃ (v0:Value) (G0:List Nat),e = .returned (v0) ∧ Ext [] w0 w ∧ ow w G0 [v0] r ∧ (∀ b ∈ G0,w0.heap.size ≤ b):=by
 intro nr
 induction nr with
 | zero =>
   intros
   rename_i h
   exact nS h
 | succ nr ih =>
 intro w0 Ap Bf Ai v2 F3 Aa v6 F7 Ak r h
 refine enter (vs:=[_,_,_]) func265 z ntmps265 z fun a k=>?_
 have m:=St.start w0
 rw [d_spec_l1Merge_Rs] at h
 unfold d_spec_l1Merge_RB at h
 refine wr (pN 1 k z fun a k=>nn (wp_seq (wr (pN 1 k z fun a k=>sv k z (r_len (α:=Int) Ak k underlying63 z z) fun a k=>pN 1 k z fun a k=>nn (cI h k z (fun Ec h=>?_) fun Ec h=>?_)))))
 · refine wr (s_bs (cs:=[]) (ps:=[]) te63 m k z z z z z z z (by decide) z (by exact (List.forall_mem_nil _)) fun Gv Ha Fl a k m e Dt=>?_)
   have Ea:=ow_bx Dt ([]:List Int) z z z
   refine pN 1 k z fun a k=>oE h fun Hh Cu h=>s_appF Cu te63 z m 0 Ea (News.rd (Enc.rd_agr Ak (m.a00 (Enc.rd_lt Ak)))) z z k z z z z z z z fun Ga Ct Fw a k e m Ck=>pN 1 k z fun a k=>nn (wp_ret (rt_then ?_))
   cases h
   exact finR1 k z (RV.tmp k z) ⟨_,Ct,z,m.ext,(Enc.ow_agr Ck (m.a 0 z)),(m.fresh 0 z)⟩
 refine wp_skip (nm_then ?_)
 refine wr (pN 1 k z fun a k=>sv k z (r_len (α:=Int) Ak k underlying63 z z) fun a k=>pN 2 k z fun a k=>nn (wr (pN 3 k z fun a k=>oE h fun Hu Dc h=>s_slTo Ak Dc k ts63 z z z z z z fun Gw a k Bo=>pN 1 k z fun a k=>oE h fun Ax Dn h=>s_call k call265 z z z z z (ih _ _ _ (Enc.rd_agr Aa (m.a00 (Enc.rd_lt Aa))) (Enc.rd_agr Bo (m.a00 (Enc.rd_lt Bo))) Dn) fun Fj Bk hR=>?_)))
 obtain ⟨Bh,Bc,rfl,e,Ab,Eh⟩:=hR
 refine ⟨_,z,fun a k=>?_⟩
 have m:=m.new e Bc (fun b hb=>⟨Eh b hb,Enc.rd_lt (Enc.ow_rd Ab) b hb⟩) (Enc.ow_nd Ab)
 refine pN 1 k z fun a k=>nn (wr (pN 3 k z fun a k=>oE h fun Gg Cd h=>s_slFrom Ak Cd k ts63 z z z z z z fun Fp a k Bg=>pN 1 k z fun a k=>oE h fun Ba Fc h=>s_call k call265 z z z z z (ih _ _ _ (Enc.rd_agr Aa (m.a00 (Enc.rd_lt Aa))) (Enc.rd_agr Bg (m.a00 (Enc.rd_lt Bg))) Fc) fun Fi Bn hR=>?_))
 obtain ⟨Bq,Bd,rfl,e,Ac,Et⟩:=hR
 refine ⟨_,z,fun a k=>?_⟩
 have m:=m.new e Bd (fun b hb=>⟨Et b hb,Enc.rd_lt (Enc.ow_rd Ac) b hb⟩) (Enc.ow_nd Ac)
 refine pN 1 k z fun a k=>nn (wr (s_bs (cs:=[]) (ps:=[]) te63 m k z z z z z z z (by decide) z (by exact (List.forall_mem_nil _)) fun Bj Ff Gu a k m e Cl=>?_))
 have De:=ow_bx Cl ([]:List Int) z z z
 refine pN 1 k z fun a k=>nn (wr (pN 1 k z fun a k=>?_))
 have k:=k.keep [0,2,8,9,10,11] z
 refine nn (wr (pN 1 k z fun a k=>nn (wp_seq (wp_block (c_loop (fun n a w=>∃ (Ay:List Int) (Az:Value) (Aq:List Nat) (Aw:World) (Ad:Int) (Af:Int),K 132 [(0,v2),(2,.bool (Ai)),(8,Bh),(9,Bq),(10,Az),(11,I Ad),(12,I Af)] a ∧ St [] w0 w [(Bc,Bk),(Bd,Bn),(Aq,Aw)] ∧ ow Aw Aq [Az] Ay ∧ d_spec_l1Merge_L1 fu Ap Ai Ax Ba n Ay Ad Af = some r) ?_ ?_ fu _ _ ?_)))))
 · rintro a w ⟨_,_,_,_,_,_,_,_,_,h⟩
   exact nS h
 · rintro Eb a Gd ⟨Ay,Az,Aq,Aw,Ad,Af,k,m,Ah,h⟩
   rw [d_spec_l1Merge_L1_s] at h
   unfold d_spec_l1Merge_L1_B at h
   refine c_cut (fun a w=>K 132 [(0,v2),(2,.bool (Ai)),(8,Bh),(9,Bq),(10,Az),(11,I Ad),(12,I Af)] a ∧ St [] w0 w [(Bc,Bk),(Bd,Bn),(Aq,Aw)] ∧ d_spec_l1Merge_J1 fu (d_spec_l1Merge_L1 fu Ap Ai Ax Ba Eb) Ap Ai Ax Ba Ay Ad Af = some r) ?_ ?_
   · rintro a Hz ⟨k,m,h⟩
     unfold d_spec_l1Merge_J1 at h
     refine wp_block (wp_block (wr (pN 2 k z fun a k=>sv k z (r_len (α:=Int) (Enc.ow_rd Ac) k underlying63 z z) fun a k=>pN 2 k z fun a k=>nn (cI h k z (fun Do h=>?_) fun Do h=>?_))))
     · refine wr (pN 3 k z fun a k=>oE h fun Bi Bp h=>sv k z (r_ixa (Enc.ow_rd Ab) Bp k ts63 z z z) fun a k=>sv k z (r_lde1 (Enc.ow_rd Ab) (m.a 0 z) Bp 0 t13 k z z z z) fun a k=>s_bs (cs:=[I Bi]) (ps:=[(0,.tmp 63)]) te63 m k z z z z z z z (by decide) z (by exact (List.forall_mem_cons.2 ⟨z,(List.forall_mem_nil _)⟩)) fun If Hb Ic a k m e Ds=>?_)
       have Ch:=ow_bx Ds ([Bi]:List Int) z z z
       refine oE h fun Ev Ej h=>s_appF Ej te63 z m 3 Ah (News.rd (Enc.rd_agr (Enc.ow_rd Ch) (m.a 0 z))) z z k z z z z z z z fun Cg Dg Cq a k e m Ce=>pN 1 k z fun a k=>nn (wp_region_lit (pN 3 k z fun a k=>wpList_nil (nm_block (nm_block (nm_then ?_)))))
       exact ⟨Ev,Cg,Dg,Cq,w64 (Ad + 1),Af,k.keep [0,2,8,9,10,11,12] z,m.sel [1,2,3] z (by decide),Ce,h⟩
     refine wr (pN 2 k z fun a k=>sv k z (r_len (α:=Int) (Enc.ow_rd Ab) k underlying63 z z) fun a k=>pN 2 k z fun a k=>nn (cI h k z (fun Eo h=>?_) fun Eo h=>?_))
     · refine wr (pN 3 k z fun a k=>oE h fun Bm Bl h=>sv k z (r_ixa (Enc.ow_rd Ac) Bl k ts63 z z z) fun a k=>sv k z (r_lde1 (Enc.ow_rd Ac) (m.a 1 z) Bl 0 t13 k z z z z) fun a k=>s_bs (cs:=[I Bm]) (ps:=[(0,.tmp 77)]) te63 m k z z z z z z z (by decide) z (by exact (List.forall_mem_cons.2 ⟨z,(List.forall_mem_nil _)⟩)) fun Hx Ge Gp a k m e Dz=>?_)
       have El:=ow_bx Dz ([Bm]:List Int) z z z
       refine oE h fun Cx Ex h=>s_appF Ex te63 z m 3 Ah (News.rd (Enc.rd_agr (Enc.ow_rd El) (m.a 0 z))) z z k z z z z z z z fun Ep En Em a k e m Dq=>pN 1 k z fun a k=>nn (wp_region_lit (pN 3 k z fun a k=>wpList_nil (nm_block (nm_block (nm_then ?_)))))
       exact ⟨Cx,Ep,En,Em,Ad,w64 (Af + 1),k.keep [0,2,8,9,10,11,12] z,m.sel [1,2,3] z (by decide),Dq,h⟩
     refine wp_seq (d_go [] mixo m z fun Bz hMd=>?_)
     have m:=hMd
     have s:=Ext.refl ([]:List Nat) Bz
     refine dN [0,1,2,7,8,9] 6 z k (by kernel_rfl) z s (fun _ _ _ _ _=>id) fun a k=>oE h fun Ao Ag h=>dt k 3 z (by kernel_rfl) z s (fun _ _ _=>id) (fun w s=>r_ixa (Enc.ow_rd Ac) Ag k ts63 z z z) fun a k=>dt k 4 z (by kernel_rfl) z s (fun _ _ _=>id) (fun w s=>r_lde1 (Enc.ow_rd Ac) ((hMd.step s).a 1 z) Ag 0 t13 k z z z z) fun a k=>oE h fun Be Al h=>dt k 5 z (by kernel_rfl) z s (fun _ _ _=>id) (fun w s=>r_ixa Aa Al k ts63 z z z) fun a k=>dt k 6 z (by kernel_rfl) z s (fun _ _ _=>id) (fun w s=>r_lde1 Aa ((hMd.step s).a00 (Enc.rd_lt Aa)) Al 0 t13 k z z z z) fun a k=>oE h fun Aj Ae h=>dt k 10 z (by kernel_rfl) z s (fun _ _ _=>id) (fun w s=>r_ixa (Enc.ow_rd Ab) Ae k ts63 z z z) fun a k=>?_
     refine dt k 11 z (by kernel_rfl) z s (fun _ _ _=>id) (fun w s=>r_lde1 (Enc.ow_rd Ab) ((hMd.step s).a 0 z) Ae 0 t13 k z z z z) fun a k=>oE h fun Bb Am h=>dt k 12 z (by kernel_rfl) z s (fun _ _ _=>id) (fun w s=>r_ixa Aa Am k ts63 z z z) fun a k=>dt k 13 z (by kernel_rfl) z s (fun _ _ _=>id) (fun w s=>r_lde1 Aa ((hMd.step s).a00 (Enc.rd_lt Aa)) Am 0 t13 k z z z z) fun a k=>dN [14,15] 2 z k (by kernel_rfl) z s (fun _ _ _ _ _=>id) fun a k=>bsplit (decide (Be < Bb)) (fun Au=>?_) (fun Au=>?_)
     · have h:=bif_t Au h
       refine rB k 98 z Au fun k=>dN [16,17,18,19] 4 z k (by kernel_rfl) z s (fun _ _ _ _ _=>id) fun a k=>bsplit (!Ai) (fun Av=>?_) (fun Av=>?_)
       · have h:=bif_t Av h
         refine rB k 102 z Av fun k=>dN [20,21,22,23,24,25,26,27,28,29,30,31,32,33,34,35,36,37,38,39] 20 z k (by kernel_rfl) z s (fun _ _ _ _ _=>id) fun a k=>d_done (by kernel_rfl) ?_
         have k:=k.keep [0,2,8,9,10,11,12,82] z
         refine (nm_then ?_)
         refine wp_cond_true (k.ev z) (wr (pN 3 k z fun a k=>oE h fun Hq Gt h=>sv k z (r_ixa (Enc.ow_rd Ac) Ag k ts63 z z z) fun a k=>sv k z (r_lde1 (Enc.ow_rd Ac) (m.a 1 z) Ag 0 t13 k z z z z) fun a k=>s_bs (cs:=[I Ao]) (ps:=[(0,.tmp 126)]) te63 m k z z z z z z z (by decide) z (by exact (List.forall_mem_cons.2 ⟨z,(List.forall_mem_nil _)⟩)) fun Hn Fy Fz a k m e Dv=>?_))
         have Bs:=ow_bx Dv ([Ao]:List Int) z z z
         refine oE h fun Cr Cv h=>s_appF Cv te63 z m 3 Ah (News.rd (Enc.rd_agr (Enc.ow_rd Bs) (m.a 0 z))) z z k z z z z z z z fun Co Dp Ek a k e m Cz=>pN 1 k z fun a k=>nn (wp_region_lit (pN 3 k z fun a k=>wpList_nil (nm_block (nm_block (nm_then ?_)))))
         exact ⟨Cr,Co,Dp,Ek,Ad,w64 (Af + 1),k.keep [0,2,8,9,10,11,12] z,m.sel [1,2,3] z (by decide),Cz,h⟩
       have h:=bif_f Av h
       refine rB k 102 z Av fun k=>dN [20,21,22,27,28,29] 6 z k (by kernel_rfl) z s (fun _ _ _ _ _=>id) fun a k=>oE h fun Ia He h=>dt k 23 z (by kernel_rfl) z s (fun _ _ _=>id) (fun w s=>r_ixa (Enc.ow_rd Ac) Ag k ts63 z z z) fun a k=>dt k 24 z (by kernel_rfl) z s (fun _ _ _=>id) (fun w s=>r_lde1 (Enc.ow_rd Ac) ((hMd.step s).a 1 z) Ag 0 t13 k z z z z) fun a k=>oE h fun Gy Hk h=>dt k 25 z (by kernel_rfl) z s (fun _ _ _=>id) (fun w s=>r_ixa Aa Al k ts63 z z z) fun a k=>dt k 26 z (by kernel_rfl) z s (fun _ _ _=>id) (fun w s=>r_lde1 Aa ((hMd.step s).a00 (Enc.rd_lt Aa)) Al 0 t13 k z z z z) fun a k=>oE h fun Gc Gz h=>?_
       refine dt k 30 z (by kernel_rfl) z s (fun _ _ _=>id) (fun w s=>r_ixa (Enc.ow_rd Ab) Ae k ts63 z z z) fun a k=>dt k 31 z (by kernel_rfl) z s (fun _ _ _=>id) (fun w s=>r_lde1 (Enc.ow_rd Ab) ((hMd.step s).a 0 z) Ae 0 t13 k z z z z) fun a k=>oE h fun Hj Gi h=>dt k 32 z (by kernel_rfl) z s (fun _ _ _=>id) (fun w s=>r_ixa Aa Am k ts63 z z z) fun a k=>dt k 33 z (by kernel_rfl) z s (fun _ _ _=>id) (fun w s=>r_lde1 Aa ((hMd.step s).a00 (Enc.rd_lt Aa)) Am 0 t13 k z z z z) fun a k=>dN [34,35] 2 z k (by kernel_rfl) z s (fun _ _ _ _ _=>id) fun a k=>bsplit (decide (Be > Bb)) (fun As=>?_) (fun As=>?_)
       · have h:=bif_t As h
         refine rB k 118 z As fun k=>dN [36,37,38,39] 4 z k (by kernel_rfl) z s (fun _ _ _ _ _=>id) fun a k=>d_done (by kernel_rfl) ?_
         have k:=k.keep [0,2,8,9,10,11,12,82] z
         refine (nm_then ?_)
         refine cI h k z (fun Cf h=>?_) fun Cf h=>?_
         · refine wr (pN 3 k z fun a k=>oE h fun Fu Hr h=>sv k z (r_ixa (Enc.ow_rd Ac) Ag k ts63 z z z) fun a k=>sv k z (r_lde1 (Enc.ow_rd Ac) (m.a 1 z) Ag 0 t13 k z z z z) fun a k=>s_bs (cs:=[I Ao]) (ps:=[(0,.tmp 126)]) te63 m k z z z z z z z (by decide) z (by exact (List.forall_mem_cons.2 ⟨z,(List.forall_mem_nil _)⟩)) fun Gr Gj Id a k m e Bx=>?_)
           have Cp:=ow_bx Bx ([Ao]:List Int) z z z
           refine oE h fun Bt Fe h=>s_appF Fe te63 z m 3 Ah (News.rd (Enc.rd_agr (Enc.ow_rd Cp) (m.a 0 z))) z z k z z z z z z z fun Bu Cn Br a k e m Dw=>pN 1 k z fun a k=>nn (wp_region_lit (pN 3 k z fun a k=>wpList_nil (nm_block (nm_block (nm_then ?_)))))
           exact ⟨Bt,Bu,Cn,Br,Ad,w64 (Af + 1),k.keep [0,2,8,9,10,11,12] z,m.sel [1,2,3] z (by decide),Dw,h⟩
         refine wr (pN 3 k z fun a k=>oE h fun Ho Hf h=>sv k z (r_ixa (Enc.ow_rd Ab) Ae k ts63 z z z) fun a k=>sv k z (r_lde1 (Enc.ow_rd Ab) (m.a 0 z) Ae 0 t13 k z z z z) fun a k=>s_bs (cs:=[I Aj]) (ps:=[(0,.tmp 49)]) te63 m k z z z z z z z (by decide) z (by exact (List.forall_mem_cons.2 ⟨z,(List.forall_mem_nil _)⟩)) fun Hg Fn Fx a k m e Ca=>?_)
         have Dh:=ow_bx Ca ([Aj]:List Int) z z z
         refine oE h fun Bv Di h=>s_appF Di te63 z m 3 Ah (News.rd (Enc.rd_agr (Enc.ow_rd Dh) (m.a 0 z))) z z k z z z z z z z fun Fb Dd Dl a k e m Cc=>pN 1 k z fun a k=>nn (wp_region_lit (pN 3 k z fun a k=>wpList_nil (nm_block (nm_block (nm_then ?_)))))
         exact ⟨Bv,Fb,Dd,Dl,w64 (Ad + 1),Af,k.keep [0,2,8,9,10,11,12] z,m.sel [1,2,3] z (by decide),Cc,h⟩
       have h:=bif_f As h
       refine rB k 118 z As fun k=>dN [36,37,38,39] 4 z k (by kernel_rfl) z s (fun _ _ _ _ _=>id) fun a k=>d_done (by kernel_rfl) ?_
       have k:=k.keep [0,2,8,9,10,11,12,82] z
       refine (nm_then ?_)
       refine wp_cond_false (k.ev z) (wr (pN 3 k z fun a k=>oE h fun Gm Hp h=>sv k z (r_ixa (Enc.ow_rd Ab) Ae k ts63 z z z) fun a k=>sv k z (r_lde1 (Enc.ow_rd Ab) (m.a 0 z) Ae 0 t13 k z z z z) fun a k=>s_bs (cs:=[I Aj]) (ps:=[(0,.tmp 49)]) te63 m k z z z z z z z (by decide) z (by exact (List.forall_mem_cons.2 ⟨z,(List.forall_mem_nil _)⟩)) fun Fq Hc Ht a k m e Dr=>?_))
       have Ez:=ow_bx Dr ([Aj]:List Int) z z z
       refine oE h fun Dy Fd h=>s_appF Fd te63 z m 3 Ah (News.rd (Enc.rd_agr (Enc.ow_rd Ez) (m.a 0 z))) z z k z z z z z z z fun Er Ei Cy a k e m Ed=>pN 1 k z fun a k=>nn (wp_region_lit (pN 3 k z fun a k=>wpList_nil (nm_block (nm_block (nm_then ?_)))))
       exact ⟨Dy,Er,Ei,Cy,w64 (Ad + 1),Af,k.keep [0,2,8,9,10,11,12] z,m.sel [1,2,3] z (by decide),Ed,h⟩
     have h:=bif_f Au h
     refine rB k 98 z Au fun k=>dN [16,17,18,19,20,21,22,27,28,29] 10 z k (by kernel_rfl) z s (fun _ _ _ _ _=>id) fun a k=>oE h fun Fm Gb h=>dt k 23 z (by kernel_rfl) z s (fun _ _ _=>id) (fun w s=>r_ixa (Enc.ow_rd Ac) Ag k ts63 z z z) fun a k=>dt k 24 z (by kernel_rfl) z s (fun _ _ _=>id) (fun w s=>r_lde1 (Enc.ow_rd Ac) ((hMd.step s).a 1 z) Ag 0 t13 k z z z z) fun a k=>oE h fun Ft Ib h=>dt k 25 z (by kernel_rfl) z s (fun _ _ _=>id) (fun w s=>r_ixa Aa Al k ts63 z z z) fun a k=>dt k 26 z (by kernel_rfl) z s (fun _ _ _=>id) (fun w s=>r_lde1 Aa ((hMd.step s).a00 (Enc.rd_lt Aa)) Al 0 t13 k z z z z) fun a k=>oE h fun Gf Gq h=>?_
     refine dt k 30 z (by kernel_rfl) z s (fun _ _ _=>id) (fun w s=>r_ixa (Enc.ow_rd Ab) Ae k ts63 z z z) fun a k=>dt k 31 z (by kernel_rfl) z s (fun _ _ _=>id) (fun w s=>r_lde1 (Enc.ow_rd Ab) ((hMd.step s).a 0 z) Ae 0 t13 k z z z z) fun a k=>oE h fun Hd Ie h=>dt k 32 z (by kernel_rfl) z s (fun _ _ _=>id) (fun w s=>r_ixa Aa Am k ts63 z z z) fun a k=>dt k 33 z (by kernel_rfl) z s (fun _ _ _=>id) (fun w s=>r_lde1 Aa ((hMd.step s).a00 (Enc.rd_lt Aa)) Am 0 t13 k z z z z) fun a k=>dN [34,35] 2 z k (by kernel_rfl) z s (fun _ _ _ _ _=>id) fun a k=>bsplit (decide (Be > Bb)) (fun Ar=>?_) (fun Ar=>?_)
     · have h:=bif_t Ar h
       refine rB k 118 z Ar fun k=>dN [36,37,38,39] 4 z k (by kernel_rfl) z s (fun _ _ _ _ _=>id) fun a k=>d_done (by kernel_rfl) ?_
       have k:=k.keep [0,2,8,9,10,11,12,82] z
       refine (nm_then ?_)
       refine cI h k z (fun Cj h=>?_) fun Cj h=>?_
       · refine wr (pN 3 k z fun a k=>oE h fun Gk Hi h=>sv k z (r_ixa (Enc.ow_rd Ac) Ag k ts63 z z z) fun a k=>sv k z (r_lde1 (Enc.ow_rd Ac) (m.a 1 z) Ag 0 t13 k z z z z) fun a k=>s_bs (cs:=[I Ao]) (ps:=[(0,.tmp 126)]) te63 m k z z z z z z z (by decide) z (by exact (List.forall_mem_cons.2 ⟨z,(List.forall_mem_nil _)⟩)) fun Gn Fs Gx a k m e Cs=>?_)
         have Db:=ow_bx Cs ([Ao]:List Int) z z z
         refine oE h fun Fh Ew h=>s_appF Ew te63 z m 3 Ah (News.rd (Enc.rd_agr (Enc.ow_rd Db) (m.a 0 z))) z z k z z z z z z z fun Dj Ey Cw a k e m Dx=>pN 1 k z fun a k=>nn (wp_region_lit (pN 3 k z fun a k=>wpList_nil (nm_block (nm_block (nm_then ?_)))))
         exact ⟨Fh,Dj,Ey,Cw,Ad,w64 (Af + 1),k.keep [0,2,8,9,10,11,12] z,m.sel [1,2,3] z (by decide),Dx,h⟩
       refine wr (pN 3 k z fun a k=>oE h fun Fr Gl h=>sv k z (r_ixa (Enc.ow_rd Ab) Ae k ts63 z z z) fun a k=>sv k z (r_lde1 (Enc.ow_rd Ab) (m.a 0 z) Ae 0 t13 k z z z z) fun a k=>s_bs (cs:=[I Aj]) (ps:=[(0,.tmp 49)]) te63 m k z z z z z z z (by decide) z (by exact (List.forall_mem_cons.2 ⟨z,(List.forall_mem_nil _)⟩)) fun Fk Fv Hl a k m e Fg=>?_)
       have Dk:=ow_bx Fg ([Aj]:List Int) z z z
       refine oE h fun Cb Ci h=>s_appF Ci te63 z m 3 Ah (News.rd (Enc.rd_agr (Enc.ow_rd Dk) (m.a 0 z))) z z k z z z z z z z fun Bw Fa Eu a k e m Ef=>pN 1 k z fun a k=>nn (wp_region_lit (pN 3 k z fun a k=>wpList_nil (nm_block (nm_block (nm_then ?_)))))
       exact ⟨Cb,Bw,Fa,Eu,w64 (Ad + 1),Af,k.keep [0,2,8,9,10,11,12] z,m.sel [1,2,3] z (by decide),Ef,h⟩
     have h:=bif_f Ar h
     refine rB k 118 z Ar fun k=>dN [36,37,38,39] 4 z k (by kernel_rfl) z s (fun _ _ _ _ _=>id) fun a k=>d_done (by kernel_rfl) ?_
     have k:=k.keep [0,2,8,9,10,11,12,82] z
     refine (nm_then ?_)
     refine wp_cond_false (k.ev z) (wr (pN 3 k z fun a k=>oE h fun Hy Hv h=>sv k z (r_ixa (Enc.ow_rd Ab) Ae k ts63 z z z) fun a k=>sv k z (r_lde1 (Enc.ow_rd Ab) (m.a 0 z) Ae 0 t13 k z z z z) fun a k=>s_bs (cs:=[I Aj]) (ps:=[(0,.tmp 49)]) te63 m k z z z z z z z (by decide) z (by exact (List.forall_mem_cons.2 ⟨z,(List.forall_mem_nil _)⟩)) fun Hw Gh Hm a k m e Ee=>?_))
     have Dm:=ow_bx Ee ([Aj]:List Int) z z z
     refine oE h fun Du By h=>s_appF By te63 z m 3 Ah (News.rd (Enc.rd_agr (Enc.ow_rd Dm) (m.a 0 z))) z z k z z z z z z z fun Eg Df Cm a k e m Da=>pN 1 k z fun a k=>nn (wp_region_lit (pN 3 k z fun a k=>wpList_nil (nm_block (nm_block (nm_then ?_)))))
     exact ⟨Du,Eg,Df,Cm,w64 (Ad + 1),Af,k.keep [0,2,8,9,10,11,12] z,m.sel [1,2,3] z (by decide),Da,h⟩
   refine wr (pN 2 k z fun a k=>sv k z (r_len (α:=Int) (Enc.ow_rd Ab) k underlying63 z z) fun a k=>pN 2 k z fun a k=>bsplit (decide (Ad < ((Ax.length:Int)))) (fun At=>?_) (fun At=>?_))
   · have h:=bif_t At h
     refine rB k 39 z At fun k=>pN 5 k z fun a k=>nn (wp_cond_true (k.ev z) (wp_skip (nm_then ?_)))
     exact ⟨k.keep [0,2,8,9,10,11,12] z,m.sel [0,1,2] z (by decide),h⟩
   have h:=bif_f At h
   refine rB k 39 z At fun k=>pN 2 k z fun a k=>sv k z (r_len (α:=Int) (Enc.ow_rd Ac) k underlying63 z z) fun a k=>pN 2 k z fun a k=>nn (cI h k z (fun Es h=>?_) fun Es h=>?_)
   · refine wp_skip (nm_then ?_)
     exact ⟨k.keep [0,2,8,9,10,11,12] z,m.sel [0,1,2] z (by decide),h⟩
   refine wp_exit (ex_then (ex_then (ex_same (nm_then ?_))))
   refine wr (pN 2 k z fun a k=>nn (wp_ret ?_))
   cases h
   exact finR1 k z (RV.tmp k z) ⟨_,Aq,z,m.ext,(Enc.ow_agr Ah (m.a 2 z)),(m.fresh 2 z)⟩
 exact ⟨([]:List Int),(.slice (some ⟨Bj,0,none⟩) 0 0),[Bj],Ff,0,0,k.keep [0,2,8,9,10,11,12] z,m.sel [2,1,0] z (by decide),De,h⟩
theorem c_spec_l1Merge (fu:Nat) {w0:World} (Ab:List Int) (Ac:List Int) (Aa:Bool) {v2:Value} {F3:List Nat} (Ae:rd w0 F3 [v2] Ab) {v6:Value} {F7:List Nat} (Ad:rd w0 F7 [v6] Ac) {r:(List Int)}
    (h:d_spec_l1Merge fu Ab Ac Aa = some r):Calls Tryz.prog 265 #[v2,v6,.bool (Aa)] w0 fun e w=>∃ (v0:Value) (G0:List Nat),e = .returned (v0) ∧ Ext [] w0 w ∧ ow w G0 [v0] r ∧ (∀ b ∈ G0,w0.heap.size ≤ b) :=
  c_spec_l1Merge_R fu fu Ab Ac Aa Ae Ad h

theorem c_spec_SortUp (fu:Nat) {w0:World} (Ad:List Int) {v2:Value} {F3:List Nat} (Aa:rd w0 F3 [v2] Ad) {r:(List Int)}
    (h:d_spec_SortUp fu Ad = some r) :
    Calls Tryz.prog 205 #[v2] w0 fun e w=>∃ (v0:Value) (G0:List Nat),e = .returned (v0) ∧ Ext [] w0 w ∧ ow w G0 [v0] r ∧ (∀ b ∈ G0,w0.heap.size ≤ b):=by
 refine enter (vs:=[_]) func205 z ntmps205 z fun a k=>?_
 have m:=St.start w0
 unfold d_spec_SortUp at h
 refine wr (pN 1 k z fun a k=>nn (wr (pN 2 k z fun a k=>sv k z (r_len (α:=Int) Aa k underlying63 z z) fun a k=>oE h fun x5 Ah h=>s_call k call176 z z z z z (c_spec_l1Places fu _  Ah) fun e7 w9 hR=>?_)))
 obtain ⟨Ao,Ag,rfl,e,Ab,Aj⟩:=hR
 refine ⟨_,z,fun a k=>?_⟩
 have m:=m.new e Ag (fun b hb=>⟨Aj b hb,Enc.rd_lt (Enc.ow_rd Ab) b hb⟩) (Enc.ow_nd Ab)
 refine oE h fun Al Ai h=>s_call k call265 z z z z z (c_spec_l1Merge fu _ _ _ (Enc.rd_agr Aa (m.a00 (Enc.rd_lt Aa))) (Enc.rd_agr (Enc.ow_rd Ab) (m.a 0 z)) Ai) fun Ak Am hR=>?_
 obtain ⟨Ap,Ae,rfl,e,Ac,Af⟩:=hR
 refine ⟨_,z,fun a k=>?_⟩
 have m:=m.new e Ae (fun b hb=>⟨Af b hb,Enc.rd_lt (Enc.ow_rd Ac) b hb⟩) (Enc.ow_nd Ac)
 refine pN 1 k z fun a k=>nn (wp_ret ?_)
 cases h
 exact finR1 k z (RV.tmp k z) ⟨_,Ae,z,m.ext,(Enc.ow_agr Ac (m.a 0 z)),(m.fresh 0 z)⟩
theorem c_spec_l5Sides (fu:Nat) {w0:World} (Ac:Int) (h2:Int) (d3:Int)  {r:(List Int)}
    (h:d_spec_l5Sides fu Ac h2 d3 = some r) :
    Calls Tryz.prog 262 #[I Ac,I h2,I d3] w0 fun e w=>∃ (v0:Value) (G0:List Nat),e = .returned (v0) ∧ Ext [] w0 w ∧ ow w G0 [v0] r ∧ (∀ b ∈ G0,w0.heap.size ≤ b):=by
 refine enter (vs:=[_,_,_]) func262 z ntmps262 z fun a k=>?_
 have m:=St.start w0
 unfold d_spec_l5Sides at h
 refine wr (pN 1 k z fun a k=>nn (wr (pN 3 k z fun a k=>s_bs (cs:=[I Ac,I h2,I d3]) (ps:=[(0,.tmp 9),(1,.tmp 10),(2,.tmp 11)]) te63 m k z z z z z z z (by decide) z (by exact (List.forall_mem_cons.2 ⟨z,(List.forall_mem_cons.2 ⟨z,(List.forall_mem_cons.2 ⟨z,(List.forall_mem_nil _)⟩)⟩)⟩)) fun g4 w5 e7 a k m e Ao=>?_)))
 have Ab:=ow_bx Ao ([Ac,h2,d3]:List Int) z z z
 refine pN 1 k z fun a k=>nn (wr (pN 1 k z fun a k=>oE h fun x9 Aq h=>s_call k call205 z z z z z (c_spec_SortUp fu _ (Enc.rd_agr (Enc.ow_rd Ab) (m.a 0 z)) Aq) fun Bb Ay hR=>?_))
 obtain ⟨Ax,Ap,rfl,e,Aa,As⟩:=hR
 refine ⟨_,z,fun a k=>?_⟩
 have m:=m.new e Ap (fun b hb=>⟨As b hb,Enc.rd_lt (Enc.ow_rd Aa) b hb⟩) (Enc.ow_nd Aa)
 refine pN 1 k z fun a k=>nn (wp_seq (d_go [] mixo m z fun Av hMd=>?_))
 have m:=hMd
 have s:=Ext.refl ([]:List Nat) Av
 refine dN [0,1,6,7,12,13] 6 z k (by kernel_rfl) z s (fun _ _ _ _ _=>id) fun a k=>oE h fun Ba Ae h=>dt k 2 z (by kernel_rfl) z s (fun _ _ _=>id) (fun w s=>r_ixa (Enc.ow_rd Aa) Ae k ts63 z z z) fun a k=>dt k 3 z (by kernel_rfl) z s (fun _ _ _=>id) (fun w s=>r_lde1 (Enc.ow_rd Aa) ((hMd.step s).a 0 z) Ae 0 t13 k z z z z) fun a k=>oE h fun Ah Aj h=>dt k 4 z (by kernel_rfl) z s (fun _ _ _=>id) (fun w s=>r_ixa (Enc.ow_rd Ab) Aj k ts63 z z z) fun a k=>dt k 5 z (by kernel_rfl) z s (fun _ _ _=>id) (fun w s=>r_lde1 (Enc.ow_rd Ab) ((hMd.step s).a 1 z) Aj 0 t13 k z z z z) fun a k=>oE h fun Bc Ai h=>dt k 8 z (by kernel_rfl) z s (fun _ _ _=>id) (fun w s=>r_ixa (Enc.ow_rd Aa) Ai k ts63 z z z) fun a k=>?_
 refine dt k 9 z (by kernel_rfl) z s (fun _ _ _=>id) (fun w s=>r_lde1 (Enc.ow_rd Aa) ((hMd.step s).a 0 z) Ai 0 t13 k z z z z) fun a k=>oE h fun Ad Al h=>dt k 10 z (by kernel_rfl) z s (fun _ _ _=>id) (fun w s=>r_ixa (Enc.ow_rd Ab) Al k ts63 z z z) fun a k=>dt k 11 z (by kernel_rfl) z s (fun _ _ _=>id) (fun w s=>r_lde1 (Enc.ow_rd Ab) ((hMd.step s).a 1 z) Al 0 t13 k z z z z) fun a k=>oE h fun Be Af h=>dt k 14 z (by kernel_rfl) z s (fun _ _ _=>id) (fun w s=>r_ixa (Enc.ow_rd Aa) Af k ts63 z z z) fun a k=>dt k 15 z (by kernel_rfl) z s (fun _ _ _=>id) (fun w s=>r_lde1 (Enc.ow_rd Aa) ((hMd.step s).a 0 z) Af 0 t13 k z z z z) fun a k=>oE h fun Ag Ak h=>?_
 refine dt k 16 z (by kernel_rfl) z s (fun _ _ _=>id) (fun w s=>r_ixa (Enc.ow_rd Ab) Ak k ts63 z z z) fun a k=>dt k 17 z (by kernel_rfl) z s (fun _ _ _=>id) (fun w s=>r_lde1 (Enc.ow_rd Ab) ((hMd.step s).a 1 z) Ak 0 t13 k z z z z) fun a k=>d_one 18 (by kernel_rfl) z (s_bsN (cs:=[I Ah,I Ad,I Ag]) (ps:=[(0,.tmp 20),(1,.tmp 26),(2,.tmp 32)]) te63 m k z z z z z z z (by decide) z (by exact (List.forall_mem_cons.2 ⟨z,(List.forall_mem_cons.2 ⟨z,(List.forall_mem_cons.2 ⟨z,(List.forall_mem_nil _)⟩)⟩)⟩)) fun Ar Bd Az a k m e Au At=>?_)
 have Aw:=lo1 (Nat.le_trans s.size At)
 have Am:=ow_bx Au ([Ah,Ad,Ag]:List Int) z z z
 have s:=s.trans e (by simp)
 refine wpList_nil ⟨s,?_⟩
 refine dN [19] 1 z k (by kernel_rfl) z s (fun _ _ _ _ _=>id) fun a k=>d_done (by kernel_rfl) ?_
 have k:=k.keep [6] z
 refine (nm_then ?_)
 refine wp_ret ?_
 cases h
 exact finR1 k z (RV.tmp k z) ⟨_,[Ar],z,m.ext,(Enc.ow_agr Am (m.a 0 z)),(m.fresh 0 z)⟩
theorem c_spec_Fits (fu:Nat) {w0:World} (x1:Item) (t2:Typ)  {r:Bool}
    (h:d_spec_Fits fu x1 t2 = some r) :
    Calls Tryz.prog 190 #[.agg (Flat.e (x1)).toArray,.agg (Flat.e (t2)).toArray] w0 fun e w=>e = .returned (.bool (r)) ∧ Ext [] w0 w:=by
 refine enter (vs:=[_,_]) func190 z ntmps190 z fun a k=>?_
 have m:=St.start w0
 unfold d_spec_Fits at h
 refine wr (s_box (cs:=[I x1.fId,I x1.fW,I x1.fH,I x1.fD,I x1.fGram,I x1.fClass,I x1.fCount]) m k z z z z z z fun b3 w5 a k m e Af=>s_box (cs:=[I t2.fId,I t2.fW,I t2.fH,I t2.fD,I t2.fTare,I t2.fGram,I t2.fCost]) m k z z z z z z fun b6 w9 a k m e Ag=>pN 1 k z fun a k=>nn (wr (sv k z (r_fa fa158_1 k z z) fun a k=>sv k z (r_ldb t13 m 1 Af 1 k z z z z z) fun a k=>sv k z (r_fa fa158_2 k z z) fun a k=>sv k z (r_ldb t13 m 1 Af 2 k z z z z z) fun a k=>sv k z (r_fa fa158_3 k z z) fun a k=>sv k z (r_ldb t13 m 1 Af 3 k z z z z z) fun a k=>oE h fun Bf At h=>?_)))
 refine s_call k call262 z z z z z (c_spec_l5Sides fu _ _ _  At) fun Bi Bb hR=>?_
 obtain ⟨Bc,Ba,rfl,e,Ab,Ay⟩:=hR
 refine ⟨_,z,fun a k=>?_⟩
 have m:=m.new e Ba (fun b hb=>⟨Ay b hb,Enc.rd_lt (Enc.ow_rd Ab) b hb⟩) (Enc.ow_nd Ab)
 refine pN 1 k z fun a k=>nn (wr (sv k z (r_fa fa79_1 k z z) fun a k=>sv k z (r_ldb t13 m 1 Ag 1 k z z z z z) fun a k=>sv k z (r_fa fa79_2 k z z) fun a k=>sv k z (r_ldb t13 m 1 Ag 2 k z z z z z) fun a k=>sv k z (r_fa fa79_3 k z z) fun a k=>sv k z (r_ldb t13 m 1 Ag 3 k z z z z z) fun a k=>oE h fun Bh Ap h=>s_call k call262 z z z z z (c_spec_l5Sides fu _ _ _  Ap) fun Be Bd hR=>?_))
 obtain ⟨Bg,Aq,rfl,e,Aa,Ax⟩:=hR
 refine ⟨_,z,fun a k=>?_⟩
 have m:=m.new e Aq (fun b hb=>⟨Ax b hb,Enc.rd_lt (Enc.ow_rd Aa) b hb⟩) (Enc.ow_nd Aa)
 refine pN 1 k z fun a k=>nn (wp_seq (d_go [] mixo m z fun Av hMd=>?_))
 have m:=hMd
 have s:=Ext.refl ([]:List Nat) Av
 refine dN [0,3] 2 z k (by kernel_rfl) z s (fun _ _ _ _ _=>id) fun a k=>oE h fun As Al h=>dt k 1 z (by kernel_rfl) z s (fun _ _ _=>id) (fun w s=>r_ixa (Enc.ow_rd Ab) Al k ts63 z z z) fun a k=>dt k 2 z (by kernel_rfl) z s (fun _ _ _=>id) (fun w s=>r_lde1 (Enc.ow_rd Ab) ((hMd.step s).a 1 z) Al 0 t13 k z z z z) fun a k=>oE h fun Ao Ah h=>dt k 4 z (by kernel_rfl) z s (fun _ _ _=>id) (fun w s=>r_ixa (Enc.ow_rd Aa) Ah k ts63 z z z) fun a k=>dt k 5 z (by kernel_rfl) z s (fun _ _ _=>id) (fun w s=>r_lde1 (Enc.ow_rd Aa) ((hMd.step s).a 0 z) Ah 0 t13 k z z z z) fun a k=>dN [6,7] 2 z k (by kernel_rfl) z s (fun _ _ _ _ _=>id) fun a k=>bsplit (decide (As ≤ Ao)) (fun Ad=>?_) (fun Ad=>?_)
 · have h:=bif_t Ad h
   refine rB k 28 z Ad fun k=>dN [8,11] 2 z k (by kernel_rfl) z s (fun _ _ _ _ _=>id) fun a k=>oE h fun Ar Ai h=>dt k 9 z (by kernel_rfl) z s (fun _ _ _=>id) (fun w s=>r_ixa (Enc.ow_rd Ab) Ai k ts63 z z z) fun a k=>dt k 10 z (by kernel_rfl) z s (fun _ _ _=>id) (fun w s=>r_lde1 (Enc.ow_rd Ab) ((hMd.step s).a 1 z) Ai 0 t13 k z z z z) fun a k=>oE h fun Au Aj h=>dt k 12 z (by kernel_rfl) z s (fun _ _ _=>id) (fun w s=>r_ixa (Enc.ow_rd Aa) Aj k ts63 z z z) fun a k=>dt k 13 z (by kernel_rfl) z s (fun _ _ _=>id) (fun w s=>r_lde1 (Enc.ow_rd Aa) ((hMd.step s).a 0 z) Aj 0 t13 k z z z z) fun a k=>dN [14,15,16] 3 z k (by kernel_rfl) z s (fun _ _ _ _ _=>id) fun a k=>bsplit (decide (Ar ≤ Au)) (fun Ae=>?_) (fun Ae=>?_)
   · have h:=bif_t Ae h
     refine rB k 37 z Ae fun k=>dN [17,20] 2 z k (by kernel_rfl) z s (fun _ _ _ _ _=>id) fun a k=>oE h fun Aw Ak h=>dt k 18 z (by kernel_rfl) z s (fun _ _ _=>id) (fun w s=>r_ixa (Enc.ow_rd Ab) Ak k ts63 z z z) fun a k=>dt k 19 z (by kernel_rfl) z s (fun _ _ _=>id) (fun w s=>r_lde1 (Enc.ow_rd Ab) ((hMd.step s).a 1 z) Ak 0 t13 k z z z z) fun a k=>oE h fun Az Am h=>dt k 21 z (by kernel_rfl) z s (fun _ _ _=>id) (fun w s=>r_ixa (Enc.ow_rd Aa) Am k ts63 z z z) fun a k=>dt k 22 z (by kernel_rfl) z s (fun _ _ _=>id) (fun w s=>r_lde1 (Enc.ow_rd Aa) ((hMd.step s).a 0 z) Am 0 t13 k z z z z) fun a k=>dN [23,24,25] 3 z k (by kernel_rfl) z s (fun _ _ _ _ _=>id) fun a k=>bsplit (decide (Aw ≤ Az)) (fun Ac=>?_) (fun Ac=>?_)
     · have h:=bif_t Ac h
       refine rB k 46 z Ac fun k=>dt k 26 z (by kernel_rfl) z s (fun _ _ _=>id) (fun w s=>r_fa fa158_4 k z z) fun a k=>dt k 27 z (by kernel_rfl) z s (fun _ _ _=>id) (fun w s=>r_ld1 t13 (r:=[]) (Af.at ((hMd.step s).a 3 z) 4 1 z z z) k z z) fun a k=>dt k 28 z (by kernel_rfl) z s (fun _ _ _=>id) (fun w s=>r_fa fa79_5 k z z) fun a k=>dt k 29 z (by kernel_rfl) z s (fun _ _ _=>id) (fun w s=>r_ld1 t13 (r:=[]) (Ag.at ((hMd.step s).a 2 z) 5 1 z z z) k z z) fun a k=>dN [30,31,32] 3 z k (by kernel_rfl) z s (fun _ _ _ _ _=>id) fun a k=>d_done (by kernel_rfl) ?_
       have k:=k.keep [4] z
       refine (nm_then ?_)
       refine wp_ret (fS h k m z z)
     have h:=bif_f Ac h
     refine rB k 46 z Ac fun k=>dN [26,27,28,29,30,31,32] 7 z k (by kernel_rfl) z s (fun _ _ _ _ _=>id) fun a k=>d_done (by kernel_rfl) ?_
     have k:=k.keep [4] z
     refine (nm_then ?_)
     refine wp_ret (fS h k m z z)
   have h:=bif_f Ae h
   refine rB k 37 z Ae fun k=>dN [17,18,19,20,21,22,23,24,25,26,27,28,29,30,31,32] 16 z k (by kernel_rfl) z s (fun _ _ _ _ _=>id) fun a k=>d_done (by kernel_rfl) ?_
   have k:=k.keep [4] z
   refine (nm_then ?_)
   refine wp_ret (fS h k m z z)
 have h:=bif_f Ad h
 refine rB k 28 z Ad fun k=>dN [8,9,10,11,12,13,14,15,16,17,18,19,20,21,22,23,24,25,26,27,28,29,30,31,32] 25 z k (by kernel_rfl) z s (fun _ _ _ _ _=>id) fun a k=>d_done (by kernel_rfl) ?_
 have k:=k.keep [4] z
 refine (nm_then ?_)
 refine wp_ret (fS h k m z z)
theorem c_spec_Class (fu:Nat) {w0:World} (r1:Request) {As:List Value} {F3:List Nat} (Bk:rd w0 F3 As r1) {r:Int}
    (h:d_spec_Class fu r1 = some r) :
    Calls Tryz.prog 74 #[.agg As.toArray] w0 fun e w=>e = .returned (I r) ∧ Ext [] w0 w:=by
 refine enter (vs:=[_]) func74 z ntmps74 z fun a k=>?_
 have m:=St.start w0
 obtain ⟨v5,F6,v7,F8,v9,Bo,rfl,rfl,Af,Ab,Ad⟩:=Bk
 unfold d_spec_Class at h
 refine wr (s_box (cs:=[I r1.fWay,I r1.fPallet.fW,I r1.fPallet.fD,I r1.fPallet.fH,I r1.fPallet.fGram,I r1.fClasses,v5,v7,I r1.fMaster,v9]) m k z z z z z z fun Ag Ao a k m e Aa=>pN 1 k z fun a k=>nn (wp_seq (wr (sv k z (r_ldB ta38 m 0 Aa 0 k z z z z z z) fun a k=>oE h fun By Bj h=>?_))))
 refine cE k m call187 z z z (c_spec_BoundsOk fu _ (show rd _ _ [I r1.fWay,I r1.fPallet.fW,I r1.fPallet.fD,I r1.fPallet.fH,I r1.fPallet.fGram,I r1.fClasses,v5,v7,I r1.fMaster,v9] (r1:Request) from ⟨_,_,_,_,_,_,z,z,(Enc.rd_agr Af (m.a00 (Enc.rd_lt Af))),(Enc.rd_agr Ab (m.a00 (Enc.rd_lt Ab))),(Enc.rd_agr Ad (m.a00 (Enc.rd_lt Ad)))⟩) Bj) fun Bx e a k m=>pN 1 k z fun a k=>nn (cI h k z (fun Ba h=>?_) fun Ba h=>?_)
 · refine wr (pN 1 k z fun a k=>nn (wp_ret (rt_then ?_)))
   refine fS h k m z z
 refine wp_skip (nm_then ?_)
 refine wp_seq (wr (sv k z (r_ldB ta38 m 0 Aa 0 k z z z z z z) fun a k=>oE h fun Bv Bh h=>cE k m call188 z z z (c_spec_l5Names fu _ (show rd _ _ [I r1.fWay,I r1.fPallet.fW,I r1.fPallet.fD,I r1.fPallet.fH,I r1.fPallet.fGram,I r1.fClasses,v5,v7,I r1.fMaster,v9] (r1:Request) from ⟨_,_,_,_,_,_,z,z,(Enc.rd_agr Af (m.a00 (Enc.rd_lt Af))),(Enc.rd_agr Ab (m.a00 (Enc.rd_lt Ab))),(Enc.rd_agr Ad (m.a00 (Enc.rd_lt Ad)))⟩) Bh) fun Bp e a k m=>pN 1 k z fun a k=>nn (cI h k z (fun Ay h=>?_) fun Ay h=>?_)))
 · refine wr (pN 1 k z fun a k=>nn (wp_ret (rt_then ?_)))
   refine fS h k m z z
 refine wp_skip (nm_then ?_)
 refine wp_seq (wr (sv k z (r_fa fa38_3 k z z) fun a k=>sv k z (r_ldb t134 m 0 Aa 6 k z z z z z) fun a k=>sv k z (r_fa fa38_2 k z z) fun a k=>sv k z (r_ldb t13 m 0 Aa 5 k z z z z z) fun a k=>oE h fun Ce Av h=>cE k m call189 z z z (c_spec_TableOk fu _ _ (Enc.rd_agr Af (m.a00 (Enc.rd_lt Af))) Av) fun Bs e a k m=>pN 1 k z fun a k=>nn (cI h k z (fun Bg h=>?_) fun Bg h=>?_)))
 · refine wr (pN 1 k z fun a k=>nn (wp_ret (rt_then ?_)))
   refine fS h k m z z
 refine wp_skip (nm_then ?_)
 refine wr (sv k z (r_ldB ta38 m 0 Aa 0 k z z z z z z) fun a k=>oE h fun Ae Bd h=>cE k m call89 z z z (c_spec_MasterOf fu _ (show rd _ _ [I r1.fWay,I r1.fPallet.fW,I r1.fPallet.fD,I r1.fPallet.fH,I r1.fPallet.fGram,I r1.fClasses,v5,v7,I r1.fMaster,v9] (r1:Request) from ⟨_,_,_,_,_,_,z,z,(Enc.rd_agr Af (m.a00 (Enc.rd_lt Af))),(Enc.rd_agr Ab (m.a00 (Enc.rd_lt Ab))),(Enc.rd_agr Ad (m.a00 (Enc.rd_lt Ad)))⟩) Bd) fun Bn e a k m=>pN 3 k z fun a k=>s_alloc (cs:=[I 0,I 0,I 0,I 0,I 0,I 0,I 0]) m k zeroValue79 z z z z z fun Ar Br a k m e Bm=>?_)
 refine s_stb (cs':=[I Ae.1.fId,I Ae.1.fW,I Ae.1.fH,I Ae.1.fD,I Ae.1.fTare,I Ae.1.fGram,I Ae.1.fCost]) sizeOf79 m 0 Bm 0 k z z z z z z z z z z z fun Bf a k e m At=>pN 1 k z fun a k=>nn (wp_seq (wr (pN 1 k z fun a k=>nn (wp_block (c_loop (fun n a w=>∃ (Am:Int),K 85 [(1,.pointer (some (⟨Ag,0,none⟩:Addr))),(3,.pointer (some (⟨Ar,0,none⟩:Addr))),(5,I Am)] a ∧ St [] w0 w [([Ag],Ao),([Ar],Bf)] ∧ d_spec_Class_L2 fu r1 Ae n Am = some r) ?_ ?_ fu _ _ ?_)))))
 · rintro a w ⟨_,_,_,h⟩
   exact nS h
 · rintro Cd a Cc ⟨Am,k,m,h⟩
   rw [d_spec_Class_L2_s] at h
   unfold d_spec_Class_L2_B at h
   refine wp_seq (wr (pN 1 k z fun a k=>sv k z (r_fa fa38_6 k z z) fun a k=>sv k z (r_ldb t136 m 0 Aa 9 k z z z z z) fun a k=>sv k z (r_len (α:=Item) Ad k underlying36 z z) fun a k=>pN 1 k z fun a k=>nn (cI h k z (fun Ax h=>?_) fun Ax h=>?_)))
   · refine wp_skip (nm_then ?_)
     refine wp_seq (wp_block (wp_seq (d_go [] mixo m z fun Bi hMd=>?_)))
     have m:=hMd
     have s:=Ext.refl ([]:List Nat) Bi
     refine dN [2] 1 z k (by kernel_rfl) z s (fun _ _ _ _ _=>id) fun a k=>dt k 0 z (by kernel_rfl) z s (fun _ _ _=>id) (fun w s=>r_fa fa38_6 k z z) fun a k=>dt k 1 z (by kernel_rfl) z s (fun _ _ _=>id) (fun w s=>r_ld1 t136 (r:=[]) (Aa.at ((hMd.step s).a 0 z) 9 1 z z z) k z z) fun a k=>oE h fun Aw Aq h=>dt k 3 z (by kernel_rfl) z s (fun _ _ _=>id) (fun w s=>r_ixa Ad Aq k ts36 z z z) fun a k=>dt k 4 z (by kernel_rfl) z s (fun _ _ _=>id) (fun w s=>r_lde Ad ((hMd.step s).a00 (Enc.rd_lt Ad)) Aq ta158 k z z) fun a k=>dt k 5 z (by kernel_rfl) z s (fun _ _ _=>id) (fun w s=>r_ldA ta79 (At.at ((hMd.step s).a 1 z) 0 7 z z z) z k z z) fun a k=>d_one 6 (by kernel_rfl) z (oE h fun Bt Au h=>?_)
     refine cE k m call190 z z z (c_spec_Fits fu (Aw:Item) (Ae.1:Typ)  Au) fun Bz e a k m=>?_
     have s:=s.trans e (by simp)
     refine wpList_nil ⟨s,?_⟩
     refine dN [7] 1 z k (by kernel_rfl) z s (fun _ _ _ _ _=>id) fun a k=>d_done (by kernel_rfl) ((nm_then ?_))
     refine cI h k z (fun Bb h=>?_) fun Bb h=>?_
     · refine wr (pN 1 k z fun a k=>nn (wp_ret (rt_block (rt_then (rt_then (rt_block (rt_then ?_)))))))
       refine fS h k m z z
     refine wp_skip (nm_block (nm_then ?_))
     refine wp_region_lit (pN 3 k z fun a k=>nn ?_)
     exact ⟨w64 (Am + 1),k.keep [1,3,5] z,m.sel [0,1] z (by decide),h⟩
   refine wp_exit (ex_then (ex_then (ex_same (nm_then ?_))))
   refine wp_seq (wr (pN 1 k z fun a k=>nn (wp_block (c_loop (fun n a w=>∃ (Ah:Int),K 85 [(1,.pointer (some (⟨Ag,0,none⟩:Addr))),(6,I Ah)] a ∧ St [] w0 w [([Ag],Ao)] ∧ d_spec_Class_L1 fu r1 n Ah = some r) ?_ ?_ fu _ _ ?_))))
   · rintro a w ⟨_,_,_,h⟩
     exact nS h
   · rintro Bl a Cb ⟨Ah,k,m,h⟩
     rw [d_spec_Class_L1_s] at h
     unfold d_spec_Class_L1_B at h
     refine wp_seq (wr (pN 1 k z fun a k=>sv k z (r_fa fa38_4 k z z) fun a k=>sv k z (r_ldb t135 m 0 Aa 7 k z z z z z) fun a k=>sv k z (r_len (α:=Typ) Ab k underlying35 z z) fun a k=>pN 1 k z fun a k=>nn (cI h k z (fun Bc h=>?_) fun Bc h=>?_)))
     · refine wp_skip (nm_then ?_)
       refine c_cut (fun a w=>K 85 [(1,.pointer (some (⟨Ag,0,none⟩:Addr))),(6,I Ah)] a ∧ St [] w0 w [([Ag],Ao)] ∧ d_spec_Class_J1 fu (d_spec_Class_L1 fu r1 Bl) Ah = some r) ?_ ?_
       · rintro a Bw ⟨k,m,h⟩
         unfold d_spec_Class_J1 at h
         refine wp_region_lit (pN 3 k z fun a k=>nn ?_)
         exact ⟨w64 (Ah + 1),k.keep [1,6] z,m.sel [0] z (by decide),h⟩
       refine wp_block (wr (sv k z (r_fa fa38_4 k z z) fun a k=>sv k z (r_ldb t135 m 0 Aa 7 k z z z z z) fun a k=>pN 1 k z fun a k=>oE h fun Ac Ap h=>sv k z (r_ixa Ab Ap k ts35 z z z) fun a k=>sv k z (r_lde Ab (m.a00 (Enc.rd_lt Ab)) Ap ta79 k z z) fun a k=>s_alloc (cs:=[I 0,I 0,I 0,I 0,I 0,I 0,I 0]) m k zeroValue79 z z z z z fun Bu Bq a k m e Be=>s_stb (cs':=[I Ac.fId,I Ac.fW,I Ac.fH,I Ac.fD,I Ac.fTare,I Ac.fGram,I Ac.fCost]) sizeOf79 m 0 Be 0 k z z z z z z z z z z z fun Ca a k e m Ak=>nn (wr (sv k z (r_fa fa79_1 k z z) fun a k=>?_))))
       refine sv k z (r_ldb t13 m 0 Ak 1 k z z z z z) fun a k=>sv k z (r_fa fa38_1 k z z) fun a k=>sv k z (r_fa fa33_0 k z z) fun a k=>sv k z (r_ldb t13 m 1 Aa 1 k z z z z z) fun a k=>pN 2 k z fun a k=>bsplit (decide (Ac.fW > r1.fPallet.fW)) (fun Ai=>?_) (fun Ai=>?_)
       · have h:=bif_t Ai h
         refine rB k 58 z Ai fun k=>pN 26 k z fun a k=>?_
         have k:=k.keep [1,6,84] z
         refine nn (wp_cond_true (k.ev z) (wr (pN 1 k z fun a k=>nn (wp_ret (rt_block (rt_then (rt_then (rt_block (rt_then ?_)))))))))
         refine fS h k m z z
       have h:=bif_f Ai h
       refine rB k 58 z Ai fun k=>sv k z (r_fa fa79_3 k z z) fun a k=>sv k z (r_ldb t13 m 0 Ak 3 k z z z z z) fun a k=>sv k z (r_fa fa38_1 k z z) fun a k=>sv k z (r_fa fa33_1 k z z) fun a k=>sv k z (r_ldb t13 m 1 Aa 2 k z z z z z) fun a k=>pN 3 k z fun a k=>bsplit (decide (Ac.fD > r1.fPallet.fD)) (fun Al=>?_) (fun Al=>?_)
       · have h:=bif_t Al h
         refine rB k 66 z Al fun k=>pN 18 k z fun a k=>?_
         have k:=k.keep [1,6,84] z
         refine nn (wp_cond_true (k.ev z) (wr (pN 1 k z fun a k=>nn (wp_ret (rt_block (rt_then (rt_then (rt_block (rt_then ?_)))))))))
         refine fS h k m z z
       have h:=bif_f Al h
       refine rB k 66 z Al fun k=>sv k z (r_fa fa79_2 k z z) fun a k=>sv k z (r_ldb t13 m 0 Ak 2 k z z z z z) fun a k=>sv k z (r_fa fa38_1 k z z) fun a k=>sv k z (r_fa fa33_2 k z z) fun a k=>sv k z (r_ldb t13 m 1 Aa 3 k z z z z z) fun a k=>pN 3 k z fun a k=>bsplit (decide (Ac.fH > r1.fPallet.fH)) (fun Aj=>?_) (fun Aj=>?_)
       · have h:=bif_t Aj h
         refine rB k 74 z Aj fun k=>pN 10 k z fun a k=>?_
         have k:=k.keep [1,6,84] z
         refine nn (wp_cond_true (k.ev z) (wr (pN 1 k z fun a k=>nn (wp_ret (rt_block (rt_then (rt_then (rt_block (rt_then ?_)))))))))
         refine fS h k m z z
       have h:=bif_f Aj h
       refine rB k 74 z Aj fun k=>sv k z (r_fa fa79_4 k z z) fun a k=>sv k z (r_ldb t13 m 0 Ak 4 k z z z z z) fun a k=>sv k z (r_fa fa79_5 k z z) fun a k=>sv k z (r_ldb t13 m 0 Ak 5 k z z z z z) fun a k=>pN 1 k z fun a k=>sv k z (r_fa fa38_1 k z z) fun a k=>sv k z (r_fa fa33_3 k z z) fun a k=>sv k z (r_ldb t13 m 1 Aa 4 k z z z z z) fun a k=>pN 2 k z fun a k=>?_
       have k:=k.keep [1,6,84] z
       refine nn (cI h k z (fun Az h=>?_) fun Az h=>?_)
       · refine wr (pN 1 k z fun a k=>nn (wp_ret (rt_block (rt_then (rt_then (rt_block (rt_then ?_)))))))
         refine fS h k m z z
       refine wp_skip (nm_block (nm_then ?_))
       exact ⟨k.keep [1,6] z,m.sel [1] z (by decide),h⟩
     refine wp_exit (ex_then (ex_then (ex_same (nm_then ?_))))
     refine wr (pN 1 k z fun a k=>nn (wp_ret (fS h k m z z)))
   exact ⟨0,k.keep [1,6] z,m.sel [0] z (by decide),h⟩
 exact ⟨0,k.keep [1,3,5] z,m.sel [1,0] z (by decide),h⟩

end Go.Proofs.YtkkfmjpbiimkbaaGreat
