/- FnExactFront: the walks of functions that it reaches (ExactFrontBWi,part 3). Printed by gen.py. -/
import Derived.Test.YtlmibnlfkmiikaaGreatExactFrontBWi2
set_option maxRecDepth 20000
set_option linter.unusedSimpArgs false
set_option linter.unusedVariables false
namespace Go.Proofs.YtlmibnlfkmiikaaGreat
open Go Go.RowKit
open Enc (rd ow)
open Arg (argv)
open Ret (retv)
open Go.Proofs.Tryz

theorem c_impl_Within (fu:Nat) {w0:World} (p1:Pallet) (b2:Box) (Aa:Spot)  {r:Bool}
    (h:d_impl_Within fu p1 b2 Aa = some r) :
    Calls Tryz.prog 218 #[.agg (Flat.e (p1)).toArray,.agg (Flat.e (b2)).toArray,.agg (Flat.e (Aa)).toArray] w0 fun e w=>e = .returned (.bool (r)) ∧ Ext [] w0 w:=by
 refine enter (vs:=[_,_,_]) func218 z ntmps218 z fun a k=>?_
 have m:=St.start w0
 unfold d_impl_Within at h
 refine wr (s_box (cs:=[I p1.fW,I p1.fD,I p1.fH,I p1.fGram]) m k z z z z z z fun b4 w6 a k m e Ak=>s_box (cs:=[I b2.fW,I b2.fD,I b2.fH,I b2.fGram]) m k z z z z z z fun b7 w9 a k m e Ac=>s_box (cs:=[I Aa.fPallet,I Aa.fX,I Aa.fY,I Aa.fZ]) m k z z z z z z fun Al Ao a k m e Ab=>pN 1 k z fun a k=>nn (c_cut (fun a w=>K 69 [(3,.pointer (some (⟨b4,0,none⟩:Addr))),(4,.pointer (some (⟨b7,0,none⟩:Addr))),(5,.pointer (some (⟨Al,0,none⟩:Addr)))] a ∧ St [] w0 w [([b4],w6),([b7],w9),([Al],Ao)] ∧ d_impl_Within_J1 fu p1 b2 Aa = some r) ?_ ?_))
 · rintro a Ba ⟨k,m,h⟩
   unfold d_impl_Within_J1 at h
   refine wr (sv k z (r_fa fa139_1 k z z) fun a k=>sv k z (r_ldb t13 m 2 Ab 1 k z z z z z) fun a k=>sv k z (r_fa fa140_0 k z z) fun a k=>sv k z (r_ldb t13 m 1 Ac 0 k z z z z z) fun a k=>pN 1 k z fun a k=>sv k z (r_fa fa25_0 k z z) fun a k=>sv k z (r_ldb t13 m 0 Ak 0 k z z z z z) fun a k=>pN 2 k z fun a k=>bsplit (decide ((w64 (Aa.fX + b2.fW)) ≤ p1.fW)) (fun Ae=>?_) (fun Ae=>?_))
   · have h:=bif_t Ae h
     refine rB k 49 z Ae fun k=>sv k z (r_fa fa139_2 k z z) fun a k=>sv k z (r_ldb t13 m 2 Ab 2 k z z z z z) fun a k=>sv k z (r_fa fa140_1 k z z) fun a k=>sv k z (r_ldb t13 m 1 Ac 1 k z z z z z) fun a k=>pN 1 k z fun a k=>sv k z (r_fa fa25_1 k z z) fun a k=>sv k z (r_ldb t13 m 0 Ak 1 k z z z z z) fun a k=>pN 3 k z fun a k=>bsplit (decide ((w64 (Aa.fY + b2.fD)) ≤ p1.fD)) (fun Aj=>?_) (fun Aj=>?_)
     · have h:=bif_t Aj h
       refine rB k 59 z Aj fun k=>sv k z (r_fa fa139_3 k z z) fun a k=>sv k z (r_ldb t13 m 2 Ab 3 k z z z z z) fun a k=>sv k z (r_fa fa140_2 k z z) fun a k=>sv k z (r_ldb t13 m 1 Ac 2 k z z z z z) fun a k=>pN 1 k z fun a k=>sv k z (r_fa fa25_2 k z z) fun a k=>sv k z (r_ldb t13 m 0 Ak 2 k z z z z z) fun a k=>pN 3 k z fun a k=>?_
       have k:=k.keep [6] z
       refine nn (wp_ret (fS h k m z z))
     have h:=bif_f Aj h
     refine rB k 59 z Aj fun k=>pN 10 k z fun a k=>?_
     have k:=k.keep [6] z
     refine nn (wp_ret (fS h k m z z))
   have h:=bif_f Ae h
   refine rB k 49 z Ae fun k=>pN 20 k z fun a k=>?_
   have k:=k.keep [6] z
   refine nn (wp_ret (fS h k m z z))
 refine wr (sv k z (r_fa fa139_1 k z z) fun a k=>sv k z (r_ldb t13 m 0 Ab 1 k z z z z z) fun a k=>oE h fun Aw As h=>cE k m call211 z z z (c_impl_isPlace fu _  As) fun Bd e a k m=>pN 2 k z fun a k=>bsplit (!Aw) (fun Ag=>?_) (fun Ag=>?_))
 · have h:=bif_t Ag h
   refine rB k 11 z Ag fun k=>pN 29 k z fun a k=>?_
   have k:=k.keep [3,4,5,40] z
   refine nn (wp_cond_true (k.ev z) (wr (pN 1 k z fun a k=>nn (wp_ret (rt_then ?_)))))
   refine fS h k m z z
 have h:=bif_f Ag h
 refine rB k 11 z Ag fun k=>sv k z (r_fa fa139_2 k z z) fun a k=>sv k z (r_ldb t13 m 0 Ab 2 k z z z z z) fun a k=>oE h fun Ax Av h=>cE k m call211 z z z (c_impl_isPlace fu _  Av) fun Bg e a k m=>pN 3 k z fun a k=>bsplit (!Ax) (fun Ai=>?_) (fun Ai=>?_)
 · have h:=bif_t Ai h
   refine rB k 17 z Ai fun k=>pN 23 k z fun a k=>?_
   have k:=k.keep [3,4,5,40] z
   refine nn (wp_cond_true (k.ev z) (wr (pN 1 k z fun a k=>nn (wp_ret (rt_then ?_)))))
   refine fS h k m z z
 have h:=bif_f Ai h
 refine rB k 17 z Ai fun k=>sv k z (r_fa fa139_3 k z z) fun a k=>sv k z (r_ldb t13 m 0 Ab 3 k z z z z z) fun a k=>oE h fun Ay Ap h=>cE k m call211 z z z (c_impl_isPlace fu _  Ap) fun Bh e a k m=>pN 3 k z fun a k=>bsplit (!Ay) (fun Ah=>?_) (fun Ah=>?_)
 · have h:=bif_t Ah h
   refine rB k 23 z Ah fun k=>pN 17 k z fun a k=>?_
   have k:=k.keep [3,4,5,40] z
   refine nn (wp_cond_true (k.ev z) (wr (pN 1 k z fun a k=>nn (wp_ret (rt_then ?_)))))
   refine fS h k m z z
 have h:=bif_f Ah h
 refine rB k 23 z Ah fun k=>sv k z (r_fa fa140_0 k z z) fun a k=>sv k z (r_ldb t13 m 1 Ac 0 k z z z z z) fun a k=>oE h fun Am Ar h=>cE k m call274 z z z (c_impl_isSide fu _  Ar) fun Be e a k m=>pN 3 k z fun a k=>bsplit (!Am) (fun Af=>?_) (fun Af=>?_)
 · have h:=bif_t Af h
   refine rB k 29 z Af fun k=>pN 11 k z fun a k=>?_
   have k:=k.keep [3,4,5,40] z
   refine nn (wp_cond_true (k.ev z) (wr (pN 1 k z fun a k=>nn (wp_ret (rt_then ?_)))))
   refine fS h k m z z
 have h:=bif_f Af h
 refine rB k 29 z Af fun k=>sv k z (r_fa fa140_1 k z z) fun a k=>sv k z (r_ldb t13 m 1 Ac 1 k z z z z z) fun a k=>oE h fun Aq Au h=>cE k m call274 z z z (c_impl_isSide fu _  Au) fun Bf e a k m=>pN 3 k z fun a k=>bsplit (!Aq) (fun Ad=>?_) (fun Ad=>?_)
 · have h:=bif_t Ad h
   refine rB k 35 z Ad fun k=>pN 5 k z fun a k=>?_
   have k:=k.keep [3,4,5,40] z
   refine nn (wp_cond_true (k.ev z) (wr (pN 1 k z fun a k=>nn (wp_ret (rt_then ?_)))))
   refine fS h k m z z
 have h:=bif_f Ad h
 refine rB k 35 z Ad fun k=>sv k z (r_fa fa140_2 k z z) fun a k=>sv k z (r_ldb t13 m 1 Ac 2 k z z z z z) fun a k=>oE h fun Bb Az h=>cE k m call274 z z z (c_impl_isSide fu _  Az) fun Bc e a k m=>pN 2 k z fun a k=>?_
 have k:=k.keep [3,4,5,40] z
 refine nn (cI h k z (fun At h=>?_) fun At h=>?_)
 · refine wr (pN 1 k z fun a k=>nn (wp_ret (rt_then ?_)))
   refine fS h k m z z
 refine wp_skip (nm_then ?_)
 exact ⟨k.keep [3,4,5] z,m.sel [2,1,0] z (by decide),h⟩
theorem c_impl_placed (fu:Nat) {w0:World} (b1:Box) (Aa:Spot)  {r:Bool}
    (h:d_impl_placed fu b1 Aa = some r) :
    Calls Tryz.prog 229 #[.agg (Flat.e (b1)).toArray,.agg (Flat.e (Aa)).toArray] w0 fun e w=>e = .returned (.bool (r)) ∧ Ext [] w0 w:=by
 refine enter (vs:=[_,_]) func229 z ntmps229 z fun a k=>?_
 have m:=St.start w0
 unfold d_impl_placed at h
 refine wr (s_box (cs:=[I b1.fW,I b1.fD,I b1.fH,I b1.fGram]) m k z z z z z z fun b3 w5 a k m e Ag=>s_box (cs:=[I Aa.fPallet,I Aa.fX,I Aa.fY,I Aa.fZ]) m k z z z z z z fun b6 w9 a k m e Ah=>pN 1 k z fun a k=>nn (wr (sv k z (r_fa fa140_0 k z z) fun a k=>sv k z (r_ldb t13 m 1 Ag 0 k z z z z z) fun a k=>oE h fun Ao Al h=>cE k m call211 z z z (c_impl_isPlace fu _  Al) fun Av e a k m=>pN 1 k z fun a k=>bsplit (Ao) (fun Ac=>?_) (fun Ac=>?_))))
 · have h:=bif_t Ac h
   refine rB k 8 z Ac fun k=>sv k z (r_fa fa140_1 k z z) fun a k=>sv k z (r_ldb t13 m 1 Ag 1 k z z z z z) fun a k=>oE h fun As Ar h=>cE k m call211 z z z (c_impl_isPlace fu _  Ar) fun Ba e a k m=>pN 2 k z fun a k=>bsplit (As) (fun Af=>?_) (fun Af=>?_)
   · have h:=bif_t Af h
     refine rB k 13 z Af fun k=>sv k z (r_fa fa140_2 k z z) fun a k=>sv k z (r_ldb t13 m 1 Ag 2 k z z z z z) fun a k=>oE h fun Am At h=>cE k m call211 z z z (c_impl_isPlace fu _  At) fun Aw e a k m=>pN 2 k z fun a k=>bsplit (Am) (fun Ae=>?_) (fun Ae=>?_)
     · have h:=bif_t Ae h
       refine rB k 18 z Ae fun k=>sv k z (r_fa fa139_1 k z z) fun a k=>sv k z (r_ldb t13 m 0 Ah 1 k z z z z z) fun a k=>oE h fun Ap Ak h=>cE k m call211 z z z (c_impl_isPlace fu _  Ak) fun Au e a k m=>pN 2 k z fun a k=>bsplit (Ap) (fun Ab=>?_) (fun Ab=>?_)
       · have h:=bif_t Ab h
         refine rB k 23 z Ab fun k=>sv k z (r_fa fa139_2 k z z) fun a k=>sv k z (r_ldb t13 m 0 Ah 2 k z z z z z) fun a k=>oE h fun Ai Aj h=>cE k m call211 z z z (c_impl_isPlace fu _  Aj) fun Ax e a k m=>pN 2 k z fun a k=>bsplit (Ai) (fun Ad=>?_) (fun Ad=>?_)
         · have h:=bif_t Ad h
           refine rB k 28 z Ad fun k=>sv k z (r_fa fa139_3 k z z) fun a k=>sv k z (r_ldb t13 m 0 Ah 3 k z z z z z) fun a k=>oE h fun Ay Aq h=>cE k m call211 z z z (c_impl_isPlace fu _  Aq) fun Az e a k m=>pN 2 k z fun a k=>?_
           have k:=k.keep [4] z
           refine nn (wp_ret (fS h k m z z))
         have h:=bif_f Ad h
         refine rB k 28 z Ad fun k=>pN 5 k z fun a k=>?_
         have k:=k.keep [4] z
         refine nn (wp_ret (fS h k m z z))
       have h:=bif_f Ab h
       refine rB k 23 z Ab fun k=>pN 10 k z fun a k=>?_
       have k:=k.keep [4] z
       refine nn (wp_ret (fS h k m z z))
     have h:=bif_f Ae h
     refine rB k 18 z Ae fun k=>pN 15 k z fun a k=>?_
     have k:=k.keep [4] z
     refine nn (wp_ret (fS h k m z z))
   have h:=bif_f Af h
   refine rB k 13 z Af fun k=>pN 20 k z fun a k=>?_
   have k:=k.keep [4] z
   refine nn (wp_ret (fS h k m z z))
 have h:=bif_f Ac h
 refine rB k 8 z Ac fun k=>pN 25 k z fun a k=>?_
 have k:=k.keep [4] z
 refine nn (wp_ret (fS h k m z z))
theorem c_impl_cross (fu:Nat) {w0:World} (a1:Int) (Ac:Int) (b3:Int) (Ab:Int)  {r:Bool}
    (h:d_impl_cross fu a1 Ac b3 Ab = some r) :
    Calls Tryz.prog 230 #[I a1,I Ac,I b3,I Ab] w0 fun e w=>e = .returned (.bool (r)) ∧ Ext [] w0 w:=by
 refine enter (vs:=[_,_,_,_]) func230 z ntmps230 z fun a k=>?_
 have m:=St.start w0
 unfold d_impl_cross at h
 refine wr (pN 1 k z fun a k=>nn (wr (pN 6 k z fun a k=>bsplit (decide (a1 < (w64 (b3 + Ab)))) (fun Aa=>?_) (fun Aa=>?_))))
 · have h:=bif_t Aa h
   refine rB k 14 z Aa fun k=>pN 7 k z fun a k=>nn (wp_ret (fS h k m z z))
 have h:=bif_f Aa h
 refine rB k 14 z Aa fun k=>pN 7 k z fun a k=>nn (wp_ret (fS h k m z z))
theorem c_impl_Overlap (fu:Nat) {w0:World} (a1:Box) (Aa:Spot) (b3:Box) (t4:Spot)  {r:Bool}
    (h:d_impl_Overlap fu a1 Aa b3 t4 = some r) :
    Calls Tryz.prog 153 #[.agg (Flat.e (a1)).toArray,.agg (Flat.e (Aa)).toArray,.agg (Flat.e (b3)).toArray,.agg (Flat.e (t4)).toArray] w0 fun e w=>e = .returned (.bool (r)) ∧ Ext [] w0 w:=by
 refine enter (vs:=[_,_,_,_]) func153 z ntmps153 z fun a k=>?_
 have m:=St.start w0
 unfold d_impl_Overlap at h
 refine wr (s_box (cs:=[I a1.fW,I a1.fD,I a1.fH,I a1.fGram]) m k z z z z z z fun b5 w7 a k m e Ai=>s_box (cs:=[I Aa.fPallet,I Aa.fX,I Aa.fY,I Aa.fZ]) m k z z z z z z fun b8 Av a k m e Af=>s_box (cs:=[I b3.fW,I b3.fD,I b3.fH,I b3.fGram]) m k z z z z z z fun Ak Al a k m e Ah=>s_box (cs:=[I t4.fPallet,I t4.fX,I t4.fY,I t4.fZ]) m k z z z z z z fun Aj Ar a k m e Ad=>pN 1 k z fun a k=>nn ?_)
 refine c_cut (fun a w=>K 57 [(4,.pointer (some (⟨b5,0,none⟩:Addr))),(5,.pointer (some (⟨b8,0,none⟩:Addr))),(6,.pointer (some (⟨Ak,0,none⟩:Addr))),(7,.pointer (some (⟨Aj,0,none⟩:Addr)))] a ∧ St [] w0 w [([b5],w7),([b8],Av),([Ak],Al),([Aj],Ar)] ∧ d_impl_Overlap_J1 fu a1 Aa b3 t4 = some r) ?_ ?_
 · rintro a Az ⟨k,m,h⟩
   unfold d_impl_Overlap_J1 at h
   refine wr (sv k z (r_fa fa139_1 k z z) fun a k=>sv k z (r_ldb t13 m 1 Af 1 k z z z z z) fun a k=>sv k z (r_fa fa140_0 k z z) fun a k=>sv k z (r_ldb t13 m 0 Ai 0 k z z z z z) fun a k=>sv k z (r_fa fa139_1 k z z) fun a k=>sv k z (r_ldb t13 m 3 Ad 1 k z z z z z) fun a k=>sv k z (r_fa fa140_0 k z z) fun a k=>sv k z (r_ldb t13 m 2 Ah 0 k z z z z z) fun a k=>oE h fun Aw Aq h=>cE k m call230 z z z (c_impl_cross fu _ _ _ _  Aq) fun Be e a k m=>pN 1 k z fun a k=>bsplit (Aw) (fun Ag=>?_) (fun Ag=>?_))
   · have h:=bif_t Ag h
     refine rB k 35 z Ag fun k=>sv k z (r_fa fa139_2 k z z) fun a k=>sv k z (r_ldb t13 m 1 Af 2 k z z z z z) fun a k=>sv k z (r_fa fa140_1 k z z) fun a k=>sv k z (r_ldb t13 m 0 Ai 1 k z z z z z) fun a k=>sv k z (r_fa fa139_2 k z z) fun a k=>sv k z (r_ldb t13 m 3 Ad 2 k z z z z z) fun a k=>sv k z (r_fa fa140_1 k z z) fun a k=>sv k z (r_ldb t13 m 2 Ah 1 k z z z z z) fun a k=>oE h fun At Ay h=>cE k m call230 z z z (c_impl_cross fu _ _ _ _  Ay) fun Bc e a k m=>pN 2 k z fun a k=>bsplit (At) (fun Ac=>?_) (fun Ac=>?_)
     · have h:=bif_t Ac h
       refine rB k 46 z Ac fun k=>sv k z (r_fa fa139_3 k z z) fun a k=>sv k z (r_ldb t13 m 1 Af 3 k z z z z z) fun a k=>sv k z (r_fa fa140_2 k z z) fun a k=>sv k z (r_ldb t13 m 0 Ai 2 k z z z z z) fun a k=>sv k z (r_fa fa139_3 k z z) fun a k=>sv k z (r_ldb t13 m 3 Ad 3 k z z z z z) fun a k=>sv k z (r_fa fa140_2 k z z) fun a k=>sv k z (r_ldb t13 m 2 Ah 2 k z z z z z) fun a k=>oE h fun Ba Ax h=>cE k m call230 z z z (c_impl_cross fu _ _ _ _  Ax) fun Bd e a k m=>pN 2 k z fun a k=>?_
       have k:=k.keep [8] z
       refine nn (wp_ret (fS h k m z z))
     have h:=bif_f Ac h
     refine rB k 46 z Ac fun k=>pN 11 k z fun a k=>?_
     have k:=k.keep [8] z
     refine nn (wp_ret (fS h k m z z))
   have h:=bif_f Ag h
   refine rB k 35 z Ag fun k=>pN 22 k z fun a k=>?_
   have k:=k.keep [8] z
   refine nn (wp_ret (fS h k m z z))
 refine wr (sv k z (r_ldB ta140 m 3 Ai 0 k z z z z z z) fun a k=>sv k z (r_ldB ta139 m 2 Af 0 k z z z z z z) fun a k=>oE h fun Am Ap h=>cE k m call229 z z z (c_impl_placed fu (a1:Box) (Aa:Spot)  Ap) fun Bb e a k m=>pN 2 k z fun a k=>bsplit (!Am) (fun Ab=>?_) (fun Ab=>?_))
 · have h:=bif_t Ab h
   refine rB k 13 z Ab fun k=>pN 12 k z fun a k=>nn (wp_cond_true (k.ev z) (wr (pN 1 k z fun a k=>nn (wp_ret (rt_then ?_)))))
   refine fS h k m z z
 have h:=bif_f Ab h
 refine rB k 13 z Ab fun k=>sv k z (r_ldB ta140 m 1 Ah 0 k z z z z z z) fun a k=>sv k z (r_ldB ta139 m 0 Ad 0 k z z z z z z) fun a k=>oE h fun As Ao h=>cE k m call229 z z z (c_impl_placed fu (b3:Box) (t4:Spot)  Ao) fun Bf e a k m=>pN 3 k z fun a k=>bsplit (!As) (fun Ae=>?_) (fun Ae=>?_)
 · have h:=bif_t Ae h
   refine rB k 19 z Ae fun k=>pN 6 k z fun a k=>nn (wp_cond_true (k.ev z) (wr (pN 1 k z fun a k=>nn (wp_ret (rt_then ?_)))))
   refine fS h k m z z
 have h:=bif_f Ae h
 refine rB k 19 z Ae fun k=>sv k z (r_fa fa139_0 k z z) fun a k=>sv k z (r_ldb t13 m 2 Af 0 k z z z z z) fun a k=>sv k z (r_fa fa139_0 k z z) fun a k=>sv k z (r_ldb t13 m 0 Ad 0 k z z z z z) fun a k=>pN 2 k z fun a k=>nn (cI h k z (fun Au h=>?_) fun Au h=>?_)
 · refine wr (pN 1 k z fun a k=>nn (wp_ret (rt_then ?_)))
   refine fS h k m z z
 refine wp_skip (nm_then ?_)
 exact ⟨k.keep [4,5,6,7] z,m.sel [3,2,1,0] z (by decide),h⟩
theorem c_impl_Pallets (fu:Nat) {w0:World} (Ad:List Spot) {v2:Value} {F3:List Nat} (Af:rd w0 F3 [v2] Ad) {r:Int}
    (h:d_impl_Pallets fu Ad = some r) :
    Calls Tryz.prog 147 #[v2] w0 fun e w=>e = .returned (I r) ∧ Ext [] w0 w:=by
 refine enter (vs:=[_]) func147 z ntmps147 z fun a k=>?_
 have m:=St.start w0
 unfold d_impl_Pallets at h
 refine wr (pN 1 k z fun a k=>nn (wr (pN 1 k z fun a k=>nn (wp_seq (wr (pN 1 k z fun a k=>sv k z (r_len (α:=Spot) Af k underlying72 z z) fun a k=>pN 1 k z fun a k=>nn (wp_block (c_loop (fun n a w=>∃ (Ab:Int) (Aa:Int),K 22 [(3,I Ab),(6,v2),(7,I ((Ad.length:Int))),(8,I Aa)] a ∧ St [] w0 w [] ∧ d_impl_Pallets_L1 fu Ad n Ab Aa = some r) ?_ ?_ fu _ _ ?_))))))))
 · rintro a w ⟨_,_,_,_,h⟩
   exact nS h
 · rintro Aj a Aq ⟨Ab,Aa,k,m,h⟩
   rw [d_impl_Pallets_L1_s] at h
   unfold d_impl_Pallets_L1_B at h
   refine wr (pN 1 k z fun a k=>nn (wp_seq (cI h k z (fun Am h=>?_) fun Am h=>?_)))
   · refine wp_skip (nm_then ?_)
     refine c_cut (fun a w=>∃ (Ae:Int),K 22 [(3,I Ae),(6,v2),(7,I ((Ad.length:Int))),(8,I Aa)] a ∧ St [] w0 w [] ∧ d_impl_Pallets_J1 fu (d_impl_Pallets_L1 fu Ad Aj) Aa Ae = some r) ?_ ?_
     · rintro a Au ⟨Ae,k,m,h⟩
       unfold d_impl_Pallets_J1 at h
       refine wp_region_lit (pN 2 k z fun a k=>nn ?_)
       exact ⟨Ae,w64 (Aa + 1),k.keep [3,6,7,8] z,m.sel [] z (by decide),h⟩
     refine wp_block (wr (oE h fun Ac Ah h=>sv k z (r_ixa Af Ah k ts72 z z z) fun a k=>sv k z (r_lde Af (m.a00 (Enc.rd_lt Af)) Ah ta139 k z z) fun a k=>s_alloc (cs:=[I 0,I 0,I 0,I 0]) m k zeroValue139 z z z z z fun At Ap a k m e Ai=>s_stb (cs':=[I Ac.fPallet,I Ac.fX,I Ac.fY,I Ac.fZ]) sizeOf139 m 0 Ai 0 k z z z z z z z z z z z fun Ao a k e m Ag=>nn (wr (sv k z (r_fa fa139_0 k z z) fun a k=>sv k z (r_ldb t13 m 0 Ag 0 k z z z z z) fun a k=>oE h fun Ar Al h=>cE k m call148 z z z (c_impl_in fu _ _ _  Al) fun As e a k m=>nn (cI h k z (fun Ak h=>?_) fun Ak h=>?_)))))
     · refine wp_region_lit (pN 1 k z fun a k=>sv k z (r_fa fa139_0 k z z) fun a k=>sv k z (r_ldb t13 m 0 Ag 0 k z z z z z) fun a k=>pN 3 k z fun a k=>wpList_nil (nm_block (nm_then ?_)))
       exact ⟨if (w64 (Ac.fPallet + 1)) > Ab then w64 (Ac.fPallet + 1) else Ab,k.keep [3,6,7,8] z,m.sel [] z (by decide),h⟩
     refine wp_skip (nm_block (nm_then ?_))
     exact ⟨Ab,k.keep [3,6,7,8] z,m.sel [] z (by decide),h⟩
   refine wp_exit (ex_then (ex_then (ex_same (nm_then ?_))))
   refine wr (pN 2 k z fun a k=>nn (wp_ret (fS h k m z z)))
 exact ⟨0,0,k.keep [3,6,7,8] z,m.sel [] z (by decide),h⟩
theorem c_impl_OnPallet (fu:Nat) {w0:World} (x1:Plan) (Ab:Int) {Ap:List Value} {F3:List Nat} (Bi:rd w0 F3 Ap x1) {r:(List Int)}
    (h:d_impl_OnPallet fu x1 Ab = some r) :
    Calls Tryz.prog 219 #[.agg Ap.toArray,I Ab] w0 fun e w=>∃ (v0:Value) (G0:List Nat),e = .returned (v0) ∧ Ext [] w0 w ∧ ow w G0 [v0] r ∧ (∀ b ∈ G0,w0.heap.size ≤ b):=by
 refine enter (vs:=[_,_]) func219 z ntmps219 z fun a k=>?_
 have m:=St.start w0
 obtain ⟨v6,F7,v8,F9,rfl,rfl,As,Ac⟩:=Bi
 unfold d_impl_OnPallet at h
 refine wr (s_box (cs:=[v6,v8]) m k z z z z z z fun Bu Bv a k m e Ao=>pN 1 k z fun a k=>nn (wp_seq (wr (sv k z (r_fa fa74_1 k z z) fun a k=>sv k z (r_ldb t172 m 0 Ao 1 k z z z z z) fun a k=>sv k z (r_len (α:=Spot) Ac k underlying72 z z) fun a k=>sv k z (r_fa fa74_0 k z z) fun a k=>sv k z (r_ldb t143 m 0 Ao 0 k z z z z z) fun a k=>sv k z (r_len (α:=Carton) As k underlying43 z z) fun a k=>pN 1 k z fun a k=>nn (cI h k z (fun Bg h=>?_) fun Bg h=>?_)))))
 · refine wr (pN 1 k z fun a k=>nn (wp_ret (rt_then ?_)))
   cases h
   exact finR1 k z (RV.tmp k z) ⟨_,[],z,m.ext,(ow_nil _),(by simp)⟩
 refine wp_skip (nm_then ?_)
 refine wr (s_bs (cs:=[]) (ps:=[]) te31 m k z z z z z z z (by decide) z (by exact (List.forall_mem_nil _)) fun Ar Av Bm a k m e Bc=>?_)
 have Bb:=ow_bx Bc ([]:List Int) z z z
 refine pN 1 k z fun a k=>nn (wp_seq (wr (sv k z (r_fa fa74_1 k z z) fun a k=>sv k z (r_ldb t172 m 1 Ao 1 k z z z z z) fun a k=>sv k z (r_len (α:=Spot) Ac k underlying72 z z) fun a k=>pN 1 k z fun a k=>nn (wp_block (c_loop (fun n a w=>∃ (Aj:List Int) (Al:Value) (Ad:List Nat) (Ai:World) (Aa:Int),K 34 [(1,I Ab),(5,Al),(17,v8),(18,I ((x1.fSpots.length:Int))),(19,I Aa)] a ∧ St [] w0 w [(Ad,Ai)] ∧ ow Ai Ad [Al] Aj ∧ d_impl_OnPallet_L1 fu x1 Ab n Aj Aa = some r) ?_ ?_ fu _ _ ?_)))))
 · rintro a w ⟨_,_,_,_,_,_,_,_,h⟩
   exact nS h
 · rintro Bh a Bw ⟨Aj,Al,Ad,Ai,Aa,k,m,Am,h⟩
   rw [d_impl_OnPallet_L1_s] at h
   unfold d_impl_OnPallet_L1_B at h
   refine wr (pN 1 k z fun a k=>nn (wp_seq (cI h k z (fun Be h=>?_) fun Be h=>?_)))
   · refine wp_skip (nm_then ?_)
     refine c_cut (fun a w=>∃ (Ah:List Int) (Ak:Value) (Ag:List Nat) (Ae:World),K 34 [(1,I Ab),(5,Ak),(17,v8),(18,I ((x1.fSpots.length:Int))),(19,I Aa)] a ∧ St [] w0 w [(Ag,Ae)] ∧ ow Ae Ag [Ak] Ah ∧ d_impl_OnPallet_J1 fu (d_impl_OnPallet_L1 fu x1 Ab Bh) Aa Ah = some r) ?_ ?_
     · rintro a Bq ⟨Ah,Ak,Ag,Ae,k,m,Az,h⟩
       unfold d_impl_OnPallet_J1 at h
       refine wp_region_lit (pN 2 k z fun a k=>nn ?_)
       exact ⟨Ah,Ak,Ag,Ae,w64 (Aa + 1),k.keep [1,5,17,18,19] z,m.sel [0] z (by decide),Az,h⟩
     refine wp_block (wr (pN 1 k z fun a k=>oE h fun Af Aq h=>sv k z (r_ixa Ac Aq k ts72 z z z) fun a k=>sv k z (r_lde Ac (m.a00 (Enc.rd_lt Ac)) Aq ta139 k z z) fun a k=>s_alloc (cs:=[I 0,I 0,I 0,I 0]) m k zeroValue139 z z z z z fun Bs Br a k m e Aw=>pN 1 k z fun a k=>s_stb (cs':=[I Af.fPallet,I Af.fX,I Af.fY,I Af.fZ]) sizeOf139 m 0 Aw 0 k z z z z z z z z z z z fun Bo a k e m Bd=>nn (wr (sv k z (r_fa fa139_0 k z z) fun a k=>sv k z (r_ldb t13 m 0 Bd 0 k z z z z z) fun a k=>pN 2 k z fun a k=>nn (cI h k z (fun Bf h=>?_) fun Bf h=>?_)))))
     · refine wp_region_lit (pN 2 k z fun a k=>s_bs (cs:=[I Aa]) (ps:=[(0,.tmp 29)]) te31 m k z z z z z z z (by decide) z (by exact (List.forall_mem_cons.2 ⟨z,(List.forall_mem_nil _)⟩)) fun Bp Bn Bt a k m e Bj=>?_)
       have Ay:=ow_bx Bj ([Aa]:List Int) z z z
       refine oE h fun Bk Au h=>s_appF Au te31 z m 2 Am (News.rd (Enc.rd_agr (Enc.ow_rd Ay) (m.a 0 z))) z z k z z z z z z z fun At Bl Ba a k e m Ax=>pN 1 k z fun a k=>wpList_nil (nm_block (nm_then ?_))
       exact ⟨Bk,At,Bl,Ba,k.keep [1,5,17,18,19] z,m.sel [2] z (by decide),Ax,h⟩
     refine wp_skip (nm_block (nm_then ?_))
     exact ⟨Aj,Al,Ad,Ai,k.keep [1,5,17,18,19] z,m.sel [1] z (by decide),Am,h⟩
   refine wp_exit (ex_then (ex_then (ex_same (nm_then ?_))))
   refine wr (pN 2 k z fun a k=>nn (wp_ret ?_))
   cases h
   exact finR1 k z (RV.tmp k z) ⟨_,Ad,z,m.ext,(Enc.ow_agr Am (m.a 0 z)),(m.fresh 0 z)⟩
 exact ⟨([]:List Int),(.slice (some ⟨Ar,0,none⟩) 0 0),[Ar],Av,0,k.keep [1,5,17,18,19] z,m.sel [0] z (by decide),Bb,h⟩
theorem c_impl_PalletGram (fu:Nat) {w0:World} (r1:Request) (x5:Plan) (Ar:Int) {Ak:List Value} {F3:List Nat} (Bp:rd w0 F3 Ak r1) {Ai:List Value} {F7:List Nat} (Bm:rd w0 F7 Ai x5) {r:Int}
    (h:d_impl_PalletGram fu r1 x5 Ar = some r) :
    Calls Tryz.prog 220 #[.agg Ak.toArray,.agg Ai.toArray,I Ar] w0 fun e w=>e = .returned (I r) ∧ Ext [] w0 w:=by
 refine enter (vs:=[_,_,_]) func220 z ntmps220 z fun a k=>?_
 have m:=St.start w0
 obtain ⟨At,Ca,Ay,Cb,Ah,Bv,rfl,rfl,Aw,Al,Ag⟩:=Bp
 obtain ⟨Az,Bs,Am,Bu,rfl,rfl,Aa,As⟩:=Bm
 unfold d_impl_PalletGram at h
 refine wr (s_box (cs:=[I r1.fWay,I r1.fPallet.fW,I r1.fPallet.fD,I r1.fPallet.fH,I r1.fPallet.fGram,I r1.fClasses,At,Ay,I r1.fMaster,Ah]) m k z z z z z z fun Au Bk a k m e Bd=>s_box (cs:=[Az,Am]) m k z z z z z z fun Ax Be a k m e Aj=>pN 1 k z fun a k=>nn (wr (pN 1 k z fun a k=>nn (wp_seq (wr (sv k z (r_ldB ta74 m 0 Aj 0 k z z z z z z) fun a k=>pN 1 k z fun a k=>oE h fun Ao Bo h=>s_call k call219 z z z z z (c_impl_OnPallet fu _ _ (show rd _ _ [Az,Am] (x5:Plan) from ⟨_,_,_,_,z,z,(Enc.rd_agr Aa (m.a00 (Enc.rd_lt Aa))),(Enc.rd_agr As (m.a00 (Enc.rd_lt As)))⟩) Bo) fun Bz Bc hR=>?_))))))
 obtain ⟨Bb,Ap,rfl,e,Ab,Bh⟩:=hR
 refine ⟨_,z,fun a k=>?_⟩
 have m:=m.new e Ap (fun b hb=>⟨Bh b hb,Enc.rd_lt (Enc.ow_rd Ab) b hb⟩) (Enc.ow_nd Ab)
 refine sv k z (r_len (α:=Int) (Enc.ow_rd Ab) k underlying31 z z) fun a k=>pN 1 k z fun a k=>nn (wp_block (c_loop (fun n a w=>∃ (Ac:Int) (Ad:Int),K 29 [(3,.pointer (some (⟨Au,0,none⟩:Addr))),(4,.pointer (some (⟨Ax,0,none⟩:Addr))),(7,I Ac),(12,Bb),(13,I ((Ao.length:Int))),(14,I Ad)] a ∧ St [] w0 w [([Au],Bk),([Ax],Be),(Ap,Bc)] ∧ d_impl_PalletGram_L1 fu r1 x5 Ao n Ac Ad = some r) ?_ ?_ fu _ _ ?_))
 · rintro a w ⟨_,_,_,_,h⟩
   exact nS h
 · rintro Bx a Cd ⟨Ac,Ad,k,m,h⟩
   rw [d_impl_PalletGram_L1_s] at h
   unfold d_impl_PalletGram_L1_B at h
   refine wr (pN 1 k z fun a k=>nn (wp_seq (cI h k z (fun Bi h=>?_) fun Bi h=>?_)))
   · refine wp_skip (nm_then ?_)
     refine wp_seq (wp_block (wr (oE h fun Bt Af h=>sv k z (r_ixa (Enc.ow_rd Ab) Af k ts31 z z z) fun a k=>sv k z (r_lde1 (Enc.ow_rd Ab) (m.a 2 z) Af 0 t13 k z z z z) fun a k=>pN 1 k z fun a k=>nn (d_go [] mixo m z fun Ba hMd=>?_))))
     have m:=hMd
     have s:=Ext.refl ([]:List Nat) Ba
     refine dN [0,4] 2 z k (by kernel_rfl) z s (fun _ _ _ _ _=>id) fun a k=>dt k 1 z (by kernel_rfl) z s (fun _ _ _=>id) (fun w s=>r_ldA ta30 (Bd.at ((hMd.step s).a 0 z) 0 10 z z z) z k z z) fun a k=>dt k 2 z (by kernel_rfl) z s (fun _ _ _=>id) (fun w s=>r_fa fa74_0 k z z) fun a k=>dt k 3 z (by kernel_rfl) z s (fun _ _ _=>id) (fun w s=>r_ld1 t143 (r:=[]) (Aj.at ((hMd.step s).a 1 z) 0 1 z z z) k z z) fun a k=>oE h fun Ae Av h=>dt k 5 z (by kernel_rfl) z s (fun _ _ _=>id) (fun w s=>r_ixa Aa Av k ts43 z z z) fun a k=>?_
     obtain ⟨Bw,Cc,By,Bj,Bl,Bq⟩:=rd_get Aa (ix_some Av).2.2
     obtain ⟨Bn,_,rfl,rfl,Aq⟩:=Bj
     refine dt k 6 z (by kernel_rfl) z s (fun _ _ _=>id) (fun w s=>r_ldA ta33 (Bl.agr ((hMd.step s).a00 (Enc.rd_lt Aa)) Bq) z k z z) fun a k=>d_one 7 (by kernel_rfl) z (oE h fun Bg Bf h=>cE k m call228 z z z (c_impl_Gross fu _ _ (show rd _ _ [I r1.fWay,I r1.fPallet.fW,I r1.fPallet.fD,I r1.fPallet.fH,I r1.fPallet.fGram,I r1.fClasses,At,Ay,I r1.fMaster,Ah] (r1:Request) from ⟨_,_,_,_,_,_,z,z,(Enc.rd_agr Aw (m.a00 (Enc.rd_lt Aw))),(Enc.rd_agr Al (m.a00 (Enc.rd_lt Al))),(Enc.rd_agr Ag (m.a00 (Enc.rd_lt Ag)))⟩) (show rd _ _ [I Ae.fType,I Ae.fGroup,Bn] (Ae:Carton) from ⟨_,_,z,z,(Enc.rd_agr Aq (m.a00 (Enc.rd_lt Aq)))⟩) Bf) fun Br e a k m=>?_)
     have s:=s.trans e (by simp)
     refine wpList_nil ⟨s,?_⟩
     refine dN [8,9] 2 z k (by kernel_rfl) z s (fun _ _ _ _ _=>id) fun a k=>d_done (by kernel_rfl) ((nm_block (nm_then ?_)))
     refine wp_region_lit (pN 2 k z fun a k=>nn ?_)
     exact ⟨w64 (Ac + Bg),w64 (Ad + 1),k.keep [3,4,7,12,13,14] z,m.sel [0,1,2] z (by decide),h⟩
   refine wp_exit (ex_then (ex_then (ex_same (nm_then ?_))))
   refine wr (pN 2 k z fun a k=>nn (wp_ret (fS h k m z z)))
 exact ⟨0,0,k.keep [3,4,7,12,13,14] z,m.sel [2,1,0] z (by decide),h⟩
theorem c_impl_spotFault_1 (fu:Nat) {w0:World} (i1:Int) (x2:Plan) (Ai:List Int) {v5:Value} {F6:List Nat} {v8:Value} {F9:List Nat} {b3:Nat} (Ab:bx w0 b3 [v5,v8] 74) (Aa:rd w0 F6 [v5] x2.fCartons) (Az:rd w0 F9 [v8] x2.fSpots) {Ad:Value} {Ao:List Nat} {Aj:Nat} (Ah:bx w0 Aj [Ad] 31) (Ac:rd w0 Ao [Ad] Ai) {r:Bool}
    (h:d_impl_spotFault_1 fu i1 x2 Ai = some r) :
    Calls Tryz.prog 221 #[I i1,.pointer (some (⟨b3,0,none⟩:Addr)),.pointer (some (⟨Aj,0,none⟩:Addr))] w0 fun e w=>e = .returned (.bool (r)) ∧ Ext [] w0 w:=by
 refine enter (vs:=[_,_,_]) func221 z ntmps221 z fun a k=>?_
 have m:=St.start w0
 unfold d_impl_spotFault_1 at h
 refine wr (pN 1 k z fun a k=>nn (wp_seq (d_go [] mixo m z fun Am hMd=>?_)))
 have m:=hMd
 have s:=Ext.refl ([]:List Nat) Am
 refine dN [2] 1 z k (by kernel_rfl) z s (fun _ _ _ _ _=>id) fun a k=>dt k 0 z (by kernel_rfl) z s (fun _ _ _=>id) (fun w s=>r_fa fa74_0 k z z) fun a k=>dt k 1 z (by kernel_rfl) z s (fun _ _ _=>id) (fun w s=>r_ld1 t143 (r:=[]) (Ab.at ((hMd.step s).a00 Ab.lt1) 0 1 z z z) k z z) fun a k=>oE h fun Bd Af h=>dt k 3 z (by kernel_rfl) z s (fun _ _ _=>id) (fun w s=>r_ixa Aa Af k ts43 z z z) fun a k=>dt k 4 z (by kernel_rfl) z s (fun _ _ _=>id) (fun w s=>r_fa fa33_1 k z z) fun a k=>?_
 obtain ⟨At,Ax,Bb,As,Ak,Ar⟩:=rd_get Aa (ix_some Af).2.2
 obtain ⟨Bf,_,rfl,rfl,Av⟩:=As
 refine dt k 5 z (by kernel_rfl) z s (fun _ _ _=>id) (fun w s=>r_ld1 t13 ((Ak.agr ((hMd.step s).a00 (Enc.rd_lt Aa)) Ar).fld 1 1 (Nat.le_of_ble_eq_true z)) k z z) fun a k=>dt k 6 z (by kernel_rfl) z s (fun _ _ _=>id) (fun w s=>r_fa fa74_0 k z z) fun a k=>dt k 7 z (by kernel_rfl) z s (fun _ _ _=>id) (fun w s=>r_ld1 t143 (r:=[]) (Ab.at ((hMd.step s).a00 Ab.lt1) 0 1 z z z) k z z) fun a k=>dt k 8 z (by kernel_rfl) z s (fun _ _ _=>id) (fun w s=>r_ld1 t131 (r:=[]) (Ah.at ((hMd.step s).a00 Ah.lt1) 0 1 z z z) k z z) fun a k=>oE h fun Au Ae h=>dt k 9 z (by kernel_rfl) z s (fun _ _ _=>id) (fun w s=>r_ixa Ac Ae k ts31 z z z) fun a k=>?_
 refine dt k 10 z (by kernel_rfl) z s (fun _ _ _=>id) (fun w s=>r_lde1 Ac ((hMd.step s).a00 (Enc.rd_lt Ac)) Ae 0 t13 k z z z z) fun a k=>oE h fun Ba Ag h=>dt k 11 z (by kernel_rfl) z s (fun _ _ _=>id) (fun w s=>r_ixa Aa Ag k ts43 z z z) fun a k=>dt k 12 z (by kernel_rfl) z s (fun _ _ _=>id) (fun w s=>r_fa fa33_1 k z z) fun a k=>?_
 obtain ⟨Aw,Bg,Bc,Aq,Ap,Al⟩:=rd_get Aa (ix_some Ag).2.2
 obtain ⟨Be,_,rfl,rfl,Ay⟩:=Aq
 refine dt k 13 z (by kernel_rfl) z s (fun _ _ _=>id) (fun w s=>r_ld1 t13 ((Ap.agr ((hMd.step s).a00 (Enc.rd_lt Aa)) Al).fld 1 1 (Nat.le_of_ble_eq_true z)) k z z) fun a k=>dN [14,15] 2 z k (by kernel_rfl) z s (fun _ _ _ _ _=>id) fun a k=>d_done (by kernel_rfl) ((nm_then ?_))
 refine wp_ret (fS h k m z z)
theorem c_impl_spotFault (fu:Nat) {w0:World} (r1:Request) (x5:Plan) {Bp:List Value} {F3:List Nat} (Dc:rd w0 F3 Bp r1) {Bl:List Value} {F7:List Nat} (Di:rd w0 F7 Bl x5) {r:Int}
    (h:d_impl_spotFault fu r1 x5 = some r) :
    Calls Tryz.prog 129 #[.agg Bp.toArray,.agg Bl.toArray] w0 fun e w=>e = .returned (I r) ∧ Ext [] w0 w:=by
 refine enter (vs:=[_,_]) func129 z ntmps129 z fun a k=>?_
 have m:=St.start w0
 obtain ⟨v9,Dy,Bd,Fc,Bc,Fd,rfl,rfl,Aw,Ba,Ax⟩:=Dc
 obtain ⟨Au,Dt,Bb,Dz,rfl,rfl,Ae,Aa⟩:=Di
 unfold d_impl_spotFault at h
 refine wr (s_box (cs:=[I r1.fWay,I r1.fPallet.fW,I r1.fPallet.fD,I r1.fPallet.fH,I r1.fPallet.fGram,I r1.fClasses,v9,Bd,I r1.fMaster,Bc]) m k z z z z z z fun Ac Al a k m e Ay=>s_box (cs:=[Au,Bb]) m k z z z z z z fun Ab Ak a k m e Af=>pN 1 k z fun a k=>nn (wr (s_bs (cs:=[]) (ps:=[]) te149 m k z z z z z z z (by decide) z (by exact (List.forall_mem_nil _)) fun Bo Cc Ek a k m e Dn=>?_)))
 have De:=ow_bx Dn ([]:List Box) z z z
 refine pN 1 k z fun a k=>nn (wp_seq (wr (sv k z (r_fa fa74_0 k z z) fun a k=>sv k z (r_ldb t143 m 1 Af 0 k z z z z z) fun a k=>sv k z (r_len (α:=Carton) Ae k underlying43 z z) fun a k=>pN 1 k z fun a k=>nn (wp_block (c_loop (fun n a w=>∃ (Ai:List Box) (Aq:Value) (At:List Nat) (As:World) (Av:Int),K 96 [(2,.pointer (some (⟨Ac,0,none⟩:Addr))),(3,.pointer (some (⟨Ab,0,none⟩:Addr))),(5,Aq),(15,Au),(16,I ((x5.fCartons.length:Int))),(17,I Av)] a ∧ St [] w0 w [([Ac],Al),([Ab],Ak),(At,As)] ∧ ow As At [Aq] Ai ∧ d_impl_spotFault_L4 fu r1 x5 n Ai Av = some r) ?_ ?_ fu _ _ ?_)))))
 · rintro a w ⟨_,_,_,_,_,_,_,_,h⟩
   exact nS h
 · rintro Ev a Eo ⟨Ai,Aq,At,As,Av,k,m,Am,h⟩
   rw [d_impl_spotFault_L4_s] at h
   unfold d_impl_spotFault_L4_B at h
   refine wr (pN 1 k z fun a k=>nn (wp_seq (cI h k z (fun Dq h=>?_) fun Dq h=>?_)))
   · refine wp_skip (nm_then ?_)
     refine wp_seq (wp_block (wr (pN 1 k z fun a k=>oE h fun Ap Br h=>sv k z (r_ixa Ae Br k ts43 z z z) fun a k=>?_)))
     obtain ⟨Ea,Fb,Du,Cu,Cb,Da⟩:=rd_get Ae (ix_some Br).2.2
     obtain ⟨Bm,_,rfl,rfl,Bg⟩:=Cu
     refine sv k z (r_ldA ta33 (Cb.agr (m.a00 (Enc.rd_lt Ae)) Da) z k z z) fun a k=>s_alloc (cs:=[I 0,I 0,.slice none 0 0]) m k zeroValue33 z z z z z fun Ex Dv a k m e Dj=>pN 1 k z fun a k=>s_stb (cs':=[I Ap.fType,I Ap.fGroup,Bm]) sizeOf33 m 0 Dj 0 k z z z z z z z z z z (allc z (allc z (allc (rd_o Bg) alln))) fun Ff a k e m Cz=>nn (wr (sv k z (r_ldB ta30 m 1 Ay 0 k z z z z z z) fun a k=>sv k z (r_ldB ta33 m 0 Cz 0 k z z z z z z) fun a k=>oE h fun Ad Dp h=>?_))
     refine cE k m call152 z z z (c_impl_BoxOf fu _ _ (show rd _ _ [I r1.fWay,I r1.fPallet.fW,I r1.fPallet.fD,I r1.fPallet.fH,I r1.fPallet.fGram,I r1.fClasses,v9,Bd,I r1.fMaster,Bc] (r1:Request) from ⟨_,_,_,_,_,_,z,z,(Enc.rd_agr Aw (m.a00 (Enc.rd_lt Aw))),(Enc.rd_agr Ba (m.a00 (Enc.rd_lt Ba))),(Enc.rd_agr Ax (m.a00 (Enc.rd_lt Ax)))⟩) (show rd _ _ [I Ap.fType,I Ap.fGroup,Bm] (Ap:Carton) from ⟨_,_,z,z,(Enc.rd_agr Bg (m.a00 (Enc.rd_lt Bg)))⟩) Dp) fun Eg e a k m=>s_alloc (cs:=[I 0,I 0,I 0,I 0]) m k zeroValue140 z z z z z fun Em Ee a k m e Cl=>?_
     refine s_stb (cs':=[I Ad.fW,I Ad.fD,I Ad.fH,I Ad.fGram]) sizeOf140 m 0 Cl 0 k z z z z z z z z z z z fun Ef a k e m Bh=>nn (wp_seq (wp_seq (d_go [] mixo m z fun Dl hMd=>?_)))
     have m:=hMd
     have s:=Ext.refl ([]:List Nat) Dl
     refine dN [5] 1 z k (by kernel_rfl) z s (fun _ _ _ _ _=>id) fun a k=>dt k 0 z (by kernel_rfl) z s (fun _ _ _=>id) (fun w s=>r_fa fa30_1 k z z) fun a k=>dt k 1 z (by kernel_rfl) z s (fun _ _ _=>id) (fun w s=>r_ldA ta25 (Ay.at ((hMd.step s).a 2 z) 1 4 z z z) z k z z) fun a k=>dt k 2 z (by kernel_rfl) z s (fun _ _ _=>id) (fun w s=>r_ldA ta140 (Bh.at ((hMd.step s).a 0 z) 0 4 z z z) z k z z) fun a k=>dt k 3 z (by kernel_rfl) z s (fun _ _ _=>id) (fun w s=>r_fa fa74_1 k z z) fun a k=>dt k 4 z (by kernel_rfl) z s (fun _ _ _=>id) (fun w s=>r_ld1 t172 (r:=[]) (Af.at ((hMd.step s).a 3 z) 1 1 z z z) k z z) fun a k=>oE h fun Bw Bi h=>?_
     refine dt k 6 z (by kernel_rfl) z s (fun _ _ _=>id) (fun w s=>r_ixa Aa Bi k ts72 z z z) fun a k=>dt k 7 z (by kernel_rfl) z s (fun _ _ _=>id) (fun w s=>r_lde Aa ((hMd.step s).a00 (Enc.rd_lt Aa)) Bi ta139 k z z) fun a k=>d_one 8 (by kernel_rfl) z (oE h fun El Dm h=>cE k m call218 z z z (c_impl_Within fu (r1.fPallet:Pallet) (Ad:Box) (Bw:Spot)  Dm) fun Ei e a k m=>?_)
     have s:=s.trans e (by simp)
     refine wpList_nil ⟨s,?_⟩
     refine dN [9] 1 z k (by kernel_rfl) z s (fun _ _ _ _ _=>id) fun a k=>d_done (by kernel_rfl) ((nm_then ?_))
     refine cI h k z (fun Cw h=>?_) fun Cw h=>?_
     · refine wr (pN 1 k z fun a k=>nn (wp_ret (rt_then (rt_block (rt_then (rt_then (rt_block (rt_then ?_))))))))
       refine fS h k m z z
     refine wp_skip (nm_then ?_)
     refine wp_region_lit (pN 1 k z fun a k=>sv k z (r_ldB ta140 m 0 Bh 0 k z z z z z z) fun a k=>s_bs (cs:=[I Ad.fW,I Ad.fD,I Ad.fH,I Ad.fGram]) (ps:=[(0,.tmp 36)]) te149 m k z z z z z z z (by decide) z (by exact (List.forall_mem_cons.2 ⟨z,(List.forall_mem_nil _)⟩)) fun Ec Ew Et a k m e Dh=>?_)
     have Db:=ow_bx Dh ([Ad]:List Box) z z z
     refine oE h fun Cj Ch h=>s_appF Ch te149 z m 5 Am (News.rd (Enc.rd_agr (Enc.ow_rd Db) (m.a 0 z))) z z k z z z z z z z fun Cr By Cg a k e m Ct=>pN 1 k z fun a k=>?_
     have k:=k.keep [2,3,15,16,5,17] z
     refine wpList_nil (nm_block (nm_then ?_))
     refine wp_region_lit (pN 2 k z fun a k=>nn ?_)
     exact ⟨Cj,Cr,By,Cg,w64 (Av + 1),k.keep [2,3,5,15,16,17] z,m.sel [3,4,5] z (by decide),Ct,h⟩
   refine wp_exit (ex_then (ex_then (ex_same (nm_then ?_))))
   refine wp_seq (wr (pN 1 k z fun a k=>sv k z (r_len (α:=Box) (Enc.ow_rd Am) k underlying149 z z) fun a k=>pN 1 k z fun a k=>nn (wp_block (c_loop (fun n a w=>∃ (Ah:Int),K 96 [(2,.pointer (some (⟨Ac,0,none⟩:Addr))),(3,.pointer (some (⟨Ab,0,none⟩:Addr))),(5,Aq),(41,I ((Ai.length:Int))),(42,I Ah)] a ∧ St [] w0 w [([Ac],Al),([Ab],Ak),(At,As)] ∧ d_impl_spotFault_L3 fu r1 x5 Ai n Ah = some r) ?_ ?_ fu _ _ ?_))))
   · rintro a w ⟨_,_,_,h⟩
     exact nS h
   · rintro Bv a Es ⟨Ah,k,m,h⟩
     rw [d_impl_spotFault_L3_s] at h
     unfold d_impl_spotFault_L3_B at h
     refine wr (pN 1 k z fun a k=>nn (wp_seq (cI h k z (fun Cy h=>?_) fun Cy h=>?_)))
     · refine wp_skip (nm_then ?_)
       refine wp_seq (wp_block (wr (pN 2 k z fun a k=>nn (wr (pN 2 k z fun a k=>nn (wp_block (c_loop (fun n a w=>∃ (Az:Int),K 96 [(2,.pointer (some (⟨Ac,0,none⟩:Addr))),(3,.pointer (some (⟨Ab,0,none⟩:Addr))),(5,Aq),(9,I Ah),(41,I ((Ai.length:Int))),(42,I Ah),(45,I Ah),(46,I Az)] a ∧ St [] w0 w [([Ac],Al),([Ab],Ak),(At,As)] ∧ d_impl_spotFault_L1 fu (d_impl_spotFault_L3 fu r1 x5 Ai Bv) x5 Ai Ah n Az = some r) ?_ ?_ fu _ _ ?_)))))))
       · rintro a w ⟨_,_,_,h⟩
         exact nS h
       · rintro Ej a Dw ⟨Az,k,m,h⟩
         rw [d_impl_spotFault_L1_s] at h
         unfold d_impl_spotFault_L1_B at h
         refine wr (pN 1 k z fun a k=>nn (wp_seq (cI h k z (fun Ci h=>?_) fun Ci h=>?_)))
         · refine wp_skip (nm_then ?_)
           refine wp_seq (wp_block (wr (pN 2 k z fun a k=>nn (wp_seq (d_go [] mixo m z fun Cm hMd=>?_)))))
           have m:=hMd
           have s:=Ext.refl ([]:List Nat) Cm
           refine dN [0,1,6,9,10,15] 6 z k (by kernel_rfl) z s (fun _ _ _ _ _=>id) fun a k=>oE h fun Cn Bq h=>dt k 2 z (by kernel_rfl) z s (fun _ _ _=>id) (fun w s=>r_ixa (Enc.ow_rd Am) Bq k ts149 z z z) fun a k=>dt k 3 z (by kernel_rfl) z s (fun _ _ _=>id) (fun w s=>r_lde (Enc.ow_rd Am) ((hMd.step s).a 2 z) Bq ta140 k z z) fun a k=>dt k 4 z (by kernel_rfl) z s (fun _ _ _=>id) (fun w s=>r_fa fa74_1 k z z) fun a k=>dt k 5 z (by kernel_rfl) z s (fun _ _ _=>id) (fun w s=>r_ld1 t172 (r:=[]) (Af.at ((hMd.step s).a 1 z) 1 1 z z z) k z z) fun a k=>oE h fun Bx Bj h=>dt k 7 z (by kernel_rfl) z s (fun _ _ _=>id) (fun w s=>r_ixa Aa Bj k ts72 z z z) fun a k=>?_
           refine dt k 8 z (by kernel_rfl) z s (fun _ _ _=>id) (fun w s=>r_lde Aa ((hMd.step s).a00 (Enc.rd_lt Aa)) Bj ta139 k z z) fun a k=>oE h fun Cf Bn h=>dt k 11 z (by kernel_rfl) z s (fun _ _ _=>id) (fun w s=>r_ixa (Enc.ow_rd Am) Bn k ts149 z z z) fun a k=>dt k 12 z (by kernel_rfl) z s (fun _ _ _=>id) (fun w s=>r_lde (Enc.ow_rd Am) ((hMd.step s).a 2 z) Bn ta140 k z z) fun a k=>dt k 13 z (by kernel_rfl) z s (fun _ _ _=>id) (fun w s=>r_fa fa74_1 k z z) fun a k=>dt k 14 z (by kernel_rfl) z s (fun _ _ _=>id) (fun w s=>r_ld1 t172 (r:=[]) (Af.at ((hMd.step s).a 1 z) 1 1 z z z) k z z) fun a k=>oE h fun Cs Bk h=>dt k 16 z (by kernel_rfl) z s (fun _ _ _=>id) (fun w s=>r_ixa Aa Bk k ts72 z z z) fun a k=>?_
           refine dt k 17 z (by kernel_rfl) z s (fun _ _ _=>id) (fun w s=>r_lde Aa ((hMd.step s).a00 (Enc.rd_lt Aa)) Bk ta139 k z z) fun a k=>d_one 18 (by kernel_rfl) z (oE h fun Fg Ce h=>cE k m call153 z z z (c_impl_Overlap fu (Cn:Box) (Bx:Spot) (Cf:Box) (Cs:Spot)  Ce) fun Er e a k m=>?_)
           have s:=s.trans e (by simp)
           refine wpList_nil ⟨s,?_⟩
           refine d_done (by kernel_rfl) ((nm_then ?_))
           refine cI h k z (fun Co h=>?_) fun Co h=>?_
           · refine wr (pN 1 k z fun a k=>nn (wp_ret (rt_block (rt_then (rt_then (rt_block (rt_block (rt_then (rt_then (rt_block (rt_then ?_)))))))))))
             refine fS h k m z z
           refine wp_skip (nm_block (nm_then ?_))
           refine wp_region_lit (pN 2 k z fun a k=>nn ?_)
           exact ⟨w64 (Az + 1),k.keep [2,3,5,9,41,42,45,46] z,m.sel [0,1,2] z (by decide),h⟩
         refine wp_exit (ex_then (ex_then (ex_same (nm_block (nm_then ?_)))))
         refine wp_region_lit (pN 2 k z fun a k=>nn ?_)
         exact ⟨w64 (Ah + 1),k.keep [2,3,5,41,42] z,m.sel [0,1,2] z (by decide),h⟩
       exact ⟨0,k.keep [2,3,5,9,41,42,45,46] z,m.sel [0,1,2] z (by decide),h⟩
     refine wp_exit (ex_then (ex_then (ex_same (nm_then ?_))))
     refine wp_seq (wr (sv k z (r_fa fa74_1 k z z) fun a k=>sv k z (r_ldb t172 m 1 Af 1 k z z z z z) fun a k=>oE h fun Ao Cq h=>cE k m call147 z z z (c_impl_Pallets fu _ (Enc.rd_agr Aa (m.a00 (Enc.rd_lt Aa))) Cq) fun Ey e a k m=>pN 1 k z fun a k=>nn (wp_block (c_loop (fun n a w=>∃ (Ag:Int),K 96 [(2,.pointer (some (⟨Ac,0,none⟩:Addr))),(3,.pointer (some (⟨Ab,0,none⟩:Addr))),(72,I Ao),(73,I Ag)] a ∧ St [] w0 w [([Ac],Al),([Ab],Ak)] ∧ d_impl_spotFault_L2 fu r1 x5 Ao n Ag = some r) ?_ ?_ fu _ _ ?_))))
     · rintro a w ⟨_,_,_,h⟩
       exact nS h
     · rintro Bs a En ⟨Ag,k,m,h⟩
       rw [d_impl_spotFault_L2_s] at h
       unfold d_impl_spotFault_L2_B at h
       refine wr (pN 1 k z fun a k=>nn (wp_seq (cI h k z (fun Ck h=>?_) fun Ck h=>?_)))
       · refine wp_skip (nm_then ?_)
         refine c_cut (fun a w=>K 96 [(2,.pointer (some (⟨Ac,0,none⟩:Addr))),(3,.pointer (some (⟨Ab,0,none⟩:Addr))),(72,I Ao),(73,I Ag)] a ∧ St [] w0 w [([Ac],Al),([Ab],Ak)] ∧ d_impl_spotFault_J1 fu (d_impl_spotFault_L2 fu r1 x5 Ao Bs) Ag = some r) ?_ ?_
         · rintro a Ed ⟨k,m,h⟩
           unfold d_impl_spotFault_J1 at h
           refine wp_region_lit (pN 2 k z fun a k=>nn ?_)
           exact ⟨w64 (Ag + 1),k.keep [2,3,72,73] z,m.sel [0,1] z (by decide),h⟩
         refine wp_block (wr (pN 2 k z fun a k=>nn (wr (sv k z (r_ldB ta74 m 1 Af 0 k z z z z z z) fun a k=>pN 1 k z fun a k=>oE h fun Bu Df h=>s_call k call219 z z z z z (c_impl_OnPallet fu _ _ (show rd _ _ [Au,Bb] (x5:Plan) from ⟨_,_,_,_,z,z,(Enc.rd_agr Ae (m.a00 (Enc.rd_lt Ae))),(Enc.rd_agr Aa (m.a00 (Enc.rd_lt Aa)))⟩) Df) fun Eu Dg hR=>?_))))
         obtain ⟨Cp,Bt,rfl,e,Aj,Dk⟩:=hR
         refine ⟨_,z,fun a k=>?_⟩
         have m:=m.new e Bt (fun b hb=>⟨Dk b hb,Enc.rd_lt (Enc.ow_rd Aj) b hb⟩) (Enc.ow_nd Aj)
         refine s_alloc (cs:=[.slice none 0 0]) m k zeroValue31 z z z z z fun Bf Fe a k m e Dr=>s_stb1 (cs':=[Cp]) sizeOf31 m 0 Dr 0 k (rd_c (Enc.ow_rd Aj)) (rd_o (Enc.ow_rd Aj)) z z z z z z z z z fun Ca a k e m Be=>nn (c_cut (fun a w=>K 96 [(2,.pointer (some (⟨Ac,0,none⟩:Addr))),(3,.pointer (some (⟨Ab,0,none⟩:Addr))),(12,.pointer (some (⟨Bf,0,none⟩:Addr))),(72,I Ao),(73,I Ag)] a ∧ St [] w0 w [([Ac],Al),([Ab],Ak),([Bf],Ca),(Bt,Dg)] ∧ d_impl_spotFault_J2 fu (d_impl_spotFault_L2 fu r1 x5 Ao Bs) x5 Ag Bu = some r) ?_ ?_)
         · rintro a Ds ⟨k,m,h⟩
           unfold d_impl_spotFault_J2 at h
           refine wr (sv k z (r_ldb t131 m 2 Be 0 k z z z z z) fun a k=>pN 1 k z fun a k=>oE h fun Dx Dd h=>cE k m call182 z z z (c_slices_ContainsFunc_int_int fu _ _ (Enc.rd_agr (Enc.ow_rd Aj) (m.a 3 z)) ⟨221,[.pointer (some (⟨Ab,0,none⟩:Addr)),.pointer (some (⟨Bf,0,none⟩:Addr))],z,call221,fun w Eb Ez r e Cv hx=>by subst Cv; have m:=m.step e; exact c_impl_spotFault_1 fu _ _ _ (Af.agr (m.a 1 rfl) (by simp)) (Enc.rd_agr Ae (m.a00 (Enc.rd_lt Ae))) (Enc.rd_agr Aa (m.a00 (Enc.rd_lt Aa))) (Be.agr (m.a 2 rfl) (by simp)) (Enc.rd_agr (Enc.ow_rd Aj) (m.a 3 rfl)) hx⟩ Dd) fun Ep e a k m=>nn (cI h k rfl (fun Do h=>?_) fun Do h=>?_))
           · refine wr (pN 1 k z fun a k=>nn (wp_ret (rt_block (rt_then (rt_then (rt_block (rt_then ?_)))))))
             refine fS h k m z z
           refine wp_skip (nm_block (nm_then ?_))
           exact ⟨k.keep [2,3,72,73] z,m.sel [0,1] z (by decide),h⟩
         refine wp_seq (d_go [] mixo m z fun Cx hMd=>?_)
         have m:=hMd
         have s:=Ext.refl ([]:List Nat) Cx
         refine dt k 0 z (by kernel_rfl) z s (fun _ _ _=>id) (fun w s=>r_ld1 t131 (r:=[]) (Be.at ((hMd.step s).a 0 z) 0 1 z z z) k z z) fun a k=>dt k 1 z (by kernel_rfl) z s (fun _ _ _=>id) (fun w s=>r_len (α:=Int) (Enc.ow_rd Aj) k underlying31 z z) fun a k=>dN [2,3] 2 z k (by kernel_rfl) z s (fun _ _ _ _ _=>id) fun a k=>bsplit (((Bu.length:Int)) == 0) (fun Ar=>?_) (fun Ar=>?_)
         · have h:=bif_t Ar h
           refine rB k 82 z Ar fun k=>dN [4,5,6,7,8,9,10,11,12] 9 z k (by kernel_rfl) z s (fun _ _ _ _ _=>id) fun a k=>d_done (by kernel_rfl) ((nm_then ?_))
           refine wp_cond_true (k.ev z) (wr (pN 1 k z fun a k=>nn (wp_ret (rt_then (rt_block (rt_then (rt_then (rt_block (rt_then ?_)))))))))
           refine fS h k m z z
         have h:=bif_f Ar h
         refine rB k 82 z Ar fun k=>dN [6] 1 z k (by kernel_rfl) z s (fun _ _ _ _ _=>id) fun a k=>dt k 4 z (by kernel_rfl) z s (fun _ _ _=>id) (fun w s=>r_ldA ta30 (Ay.at ((hMd.step s).a 2 z) 0 10 z z z) z k z z) fun a k=>dt k 5 z (by kernel_rfl) z s (fun _ _ _=>id) (fun w s=>r_ldA ta74 (Af.at ((hMd.step s).a 3 z) 0 2 z z z) z k z z) fun a k=>dt k 8 z (by kernel_rfl) z s (fun _ _ _=>id) (fun w s=>r_fa fa30_1 k z z) fun a k=>dt k 9 z (by kernel_rfl) z s (fun _ _ _=>id) (fun w s=>r_fa fa25_3 k z z) fun a k=>dt k 10 z (by kernel_rfl) z s (fun _ _ _=>id) (fun w s=>r_ld1 t13 (r:=[]) (Ay.at ((hMd.step s).a 2 z) 4 1 z z z) k z z) fun a k=>d_one 7 (by kernel_rfl) z (oE h fun Eh Cd h=>?_)
         refine cE k m call220 z z z (c_impl_PalletGram fu _ _ _ (show rd _ _ [I r1.fWay,I r1.fPallet.fW,I r1.fPallet.fD,I r1.fPallet.fH,I r1.fPallet.fGram,I r1.fClasses,v9,Bd,I r1.fMaster,Bc] (r1:Request) from ⟨_,_,_,_,_,_,z,z,(Enc.rd_agr Aw (m.a00 (Enc.rd_lt Aw))),(Enc.rd_agr Ba (m.a00 (Enc.rd_lt Ba))),(Enc.rd_agr Ax (m.a00 (Enc.rd_lt Ax)))⟩) (show rd _ _ [Au,Bb] (x5:Plan) from ⟨_,_,_,_,z,z,(Enc.rd_agr Ae (m.a00 (Enc.rd_lt Ae))),(Enc.rd_agr Aa (m.a00 (Enc.rd_lt Aa)))⟩) Cd) fun Fa e a k m=>?_
         have s:=s.trans e (by simp)
         refine wpList_nil ⟨s,?_⟩
         refine dN [11,12] 2 z k (by kernel_rfl) z s (fun _ _ _ _ _=>id) fun a k=>d_done (by kernel_rfl) ((nm_then ?_))
         refine cI h k z (fun Bz h=>?_) fun Bz h=>?_
         · refine wr (pN 1 k z fun a k=>nn (wp_ret (rt_then (rt_block (rt_then (rt_then (rt_block (rt_then ?_))))))))
           refine fS h k m z z
         refine wp_skip (nm_then ?_)
         exact ⟨k.keep [2,3,12,72,73] z,m.sel [2,3,0,1] z (by decide),h⟩
       refine wp_exit (ex_then (ex_then (ex_same (nm_then ?_))))
       refine wr (pN 1 k z fun a k=>nn (wp_ret (fS h k m z z)))
     exact ⟨0,k.keep [2,3,72,73] z,m.sel [0,1] z (by decide),h⟩
   exact ⟨0,k.keep [2,3,5,41,42] z,m.sel [0,1,2] z (by decide),h⟩
 exact ⟨([]:List Box),(.slice (some ⟨Bo,0,none⟩) 0 0),[Bo],Cc,0,k.keep [2,3,5,15,16,17] z,m.sel [2,1,0] z (by decide),De,h⟩
theorem c_impl_Check (fu:Nat) {w0:World} (r1:Request) (x5:Plan) {Av:List Value} {F3:List Nat} (Bk:rd w0 F3 Av r1) {Au:List Value} {F7:List Nat} (Bu:rd w0 F7 Au x5) {r:Int}
    (h:d_impl_Check fu r1 x5 = some r) :
    Calls Tryz.prog 41 #[.agg Av.toArray,.agg Au.toArray] w0 fun e w=>e = .returned (I r) ∧ Ext [] w0 w:=by
 refine enter (vs:=[_,_]) func41 z ntmps41 z fun a k=>?_
 have m:=St.start w0
 obtain ⟨v9,By,Aj,Cw,Ag,Cy,rfl,rfl,Ab,Ae,Ad⟩:=Bk
 obtain ⟨Ah,Bw,Af,Bz,rfl,rfl,Aa,Ac⟩:=Bu
 unfold d_impl_Check at h
 refine wr (s_box (cs:=[I r1.fWay,I r1.fPallet.fW,I r1.fPallet.fD,I r1.fPallet.fH,I r1.fPallet.fGram,I r1.fClasses,v9,Aj,I r1.fMaster,Ag]) m k z z z z z z fun At Bl a k m e Al=>s_box (cs:=[Ah,Af]) m k z z z z z z fun As Bf a k m e Ai=>pN 1 k z fun a k=>nn (wp_seq (wr (sv k z (r_ldB ta30 m 1 Al 0 k z z z z z z) fun a k=>oE h fun Cn Bh h=>?_))))
 refine cE k m call61 z z z (c_impl_sound fu _ (show rd _ _ [I r1.fWay,I r1.fPallet.fW,I r1.fPallet.fD,I r1.fPallet.fH,I r1.fPallet.fGram,I r1.fClasses,v9,Aj,I r1.fMaster,Ag] (r1:Request) from ⟨_,_,_,_,_,_,z,z,(Enc.rd_agr Ab (m.a00 (Enc.rd_lt Ab))),(Enc.rd_agr Ae (m.a00 (Enc.rd_lt Ae))),(Enc.rd_agr Ad (m.a00 (Enc.rd_lt Ad)))⟩) Bh) fun Cb e a k m=>pN 1 k z fun a k=>nn (cI h k z (fun Bi h=>?_) fun Bi h=>?_)
 · refine wr (pN 1 k z fun a k=>nn (wp_ret (rt_then ?_)))
   refine fS h k m z z
 refine wp_skip (nm_then ?_)
 refine c_cut (fun a w=>K 38 [(2,.pointer (some (⟨At,0,none⟩:Addr))),(3,.pointer (some (⟨As,0,none⟩:Addr)))] a ∧ St [] w0 w [([At],Bl),([As],Bf)] ∧ d_impl_Check_J1 fu r1 x5 = some r) ?_ ?_
 · rintro a Ch ⟨k,m,h⟩
   unfold d_impl_Check_J1 at h
   refine wr (sv k z (r_ldB ta74 m 1 Ai 0 k z z z z z z) fun a k=>oE h fun Db Ax h=>s_call k call123 z z z z z (c_impl_allUnits fu _ (show rd _ _ [Ah,Af] (x5:Plan) from ⟨_,_,_,_,z,z,(Enc.rd_agr Aa (m.a00 (Enc.rd_lt Aa))),(Enc.rd_agr Ac (m.a00 (Enc.rd_lt Ac)))⟩) Ax) fun Cl Ck hR=>?_)
   obtain ⟨Bx,Be,rfl,e,Ao,Bs⟩:=hR
   refine ⟨_,z,fun a k=>?_⟩
   have m:=m.new e Be (fun b hb=>⟨Bs b hb,Enc.rd_lt (Enc.ow_rd Ao) b hb⟩) (Enc.ow_nd Ao)
   refine pN 1 k z fun a k=>nn (wr (pN 1 k z fun a k=>oE h fun Ci Bo h=>s_call k call124 z z z z z (c_slices_Sort_int_int fu _ (Enc.ow_agr Ao (m.a 0 z)) Bo) fun Cq De hR=>?_))
   obtain ⟨Cf,rfl,e,Az,Am⟩:=hR
   refine ⟨_,z,fun a k=>?_⟩
   have m:=m.mut 0 z e _ (fun b hb=>⟨Az b hb,Enc.rd_lt (Enc.ow_rd Am) b hb⟩) (Enc.ow_nd Am)
   refine nn (wp_seq (wr (pN 1 k z fun a k=>sv k z (r_ldB ta30 m 1 Al 0 k z z z z z z) fun a k=>oE h fun Cz Bg h=>s_call k call127 z z z z z (c_impl_Units fu _ (show rd _ _ [I r1.fWay,I r1.fPallet.fW,I r1.fPallet.fD,I r1.fPallet.fH,I r1.fPallet.fGram,I r1.fClasses,v9,Aj,I r1.fMaster,Ag] (r1:Request) from ⟨_,_,_,_,_,_,z,z,(Enc.rd_agr Ab (m.a00 (Enc.rd_lt Ab))),(Enc.rd_agr Ae (m.a00 (Enc.rd_lt Ae))),(Enc.rd_agr Ad (m.a00 (Enc.rd_lt Ad)))⟩) Bg) fun Co Cr hR=>?_)))
   obtain ⟨Cu,Bq,rfl,e,Ar,Aw⟩:=hR
   refine ⟨_,z,fun a k=>?_⟩
   have m:=m.new e Bq (fun b hb=>⟨Aw b hb,Enc.rd_lt (Enc.ow_rd Ar) b hb⟩) (Enc.ow_nd Ar)
   refine sv k z (r_len (α:=Int) (Enc.ow_rd Ar) k underlying31 z z) fun a k=>oE h fun Cp Bt h=>s_call k call126 z z z z z (c_impl_places fu _  Bt) fun Cc Ct hR=>?_
   obtain ⟨Cj,Bp,rfl,e,Ap,Br⟩:=hR
   refine ⟨_,z,fun a k=>?_⟩
   have m:=m.new e Bp (fun b hb=>⟨Br b hb,Enc.rd_lt (Enc.ow_rd Ap) b hb⟩) (Enc.ow_nd Ap)
   refine oE h fun Da Bd h=>cE k m call125 z z z (c_slices_Equal_int_int fu _ _ (Enc.rd_agr (Enc.ow_rd Am) (m.a 2 z)) (Enc.rd_agr (Enc.ow_rd Ap) (m.a 0 z)) Bd) fun Cv e a k m=>pN 1 k z fun a k=>nn (cI h k z (fun Bc h=>?_) fun Bc h=>?_)
   · refine wr (pN 1 k z fun a k=>nn (wp_ret (rt_then ?_)))
     refine fS h k m z z
   refine wp_skip (nm_then ?_)
   refine wp_seq (wr (sv k z (r_ldB ta30 m 3 Al 0 k z z z z z z) fun a k=>sv k z (r_ldB ta74 m 4 Ai 0 k z z z z z z) fun a k=>oE h fun Dd Bn h=>cE k m call128 z z z (c_impl_cartonFault fu _ _ (show rd _ _ [I r1.fWay,I r1.fPallet.fW,I r1.fPallet.fD,I r1.fPallet.fH,I r1.fPallet.fGram,I r1.fClasses,v9,Aj,I r1.fMaster,Ag] (r1:Request) from ⟨_,_,_,_,_,_,z,z,(Enc.rd_agr Ab (m.a00 (Enc.rd_lt Ab))),(Enc.rd_agr Ae (m.a00 (Enc.rd_lt Ae))),(Enc.rd_agr Ad (m.a00 (Enc.rd_lt Ad)))⟩) (show rd _ _ [Ah,Af] (x5:Plan) from ⟨_,_,_,_,z,z,(Enc.rd_agr Aa (m.a00 (Enc.rd_lt Aa))),(Enc.rd_agr Ac (m.a00 (Enc.rd_lt Ac)))⟩) Bn) fun Cg e a k m=>pN 1 k z fun a k=>nn (wr (pN 2 k z fun a k=>nn ?_))))
   refine cI h k z (fun Ba h=>?_) fun Ba h=>?_
   · refine wr (pN 2 k z fun a k=>nn (wp_ret (rt_then ?_)))
     refine fS h k m z z
   refine wp_skip (nm_then ?_)
   refine wr (sv k z (r_ldB ta30 m 3 Al 0 k z z z z z z) fun a k=>sv k z (r_ldB ta74 m 4 Ai 0 k z z z z z z) fun a k=>oE h fun Ce Bm h=>cE k m call129 z z z (c_impl_spotFault fu _ _ (show rd _ _ [I r1.fWay,I r1.fPallet.fW,I r1.fPallet.fD,I r1.fPallet.fH,I r1.fPallet.fGram,I r1.fClasses,v9,Aj,I r1.fMaster,Ag] (r1:Request) from ⟨_,_,_,_,_,_,z,z,(Enc.rd_agr Ab (m.a00 (Enc.rd_lt Ab))),(Enc.rd_agr Ae (m.a00 (Enc.rd_lt Ae))),(Enc.rd_agr Ad (m.a00 (Enc.rd_lt Ad)))⟩) (show rd _ _ [Ah,Af] (x5:Plan) from ⟨_,_,_,_,z,z,(Enc.rd_agr Aa (m.a00 (Enc.rd_lt Aa))),(Enc.rd_agr Ac (m.a00 (Enc.rd_lt Ac)))⟩) Bm) fun Cm e a k m=>pN 1 k z fun a k=>nn (wp_ret (fS h k m z z)))
 refine wr (sv k z (r_ldB ta74 m 0 Ai 0 k z z z z z z) fun a k=>oE h fun Ay Bb h=>cE k m call120 z z z (c_impl_PlanOk fu _ (show rd _ _ [Ah,Af] (x5:Plan) from ⟨_,_,_,_,z,z,(Enc.rd_agr Aa (m.a00 (Enc.rd_lt Aa))),(Enc.rd_agr Ac (m.a00 (Enc.rd_lt Ac)))⟩) Bb) fun Cx e a k m=>pN 2 k z fun a k=>bsplit (!Ay) (fun Ak=>?_) (fun Ak=>?_))
 · have h:=bif_t Ak h
   refine rB k 13 z Ak fun k=>pN 4 k z fun a k=>nn (wp_cond_true (k.ev z) (wr (pN 1 k z fun a k=>nn (wp_ret (rt_then ?_)))))
   refine fS h k m z z
 have h:=bif_f Ak h
 refine rB k 13 z Ak fun k=>sv k z (r_fa fa74_0 k z z) fun a k=>sv k z (r_ldb t143 m 0 Ai 0 k z z z z z) fun a k=>oE h fun Cs Bv h=>cE k m call121 z z z (c_slices_ContainsFunc_impl_Carton_impl_Carton fu _ _ (Enc.rd_agr Aa (m.a00 (Enc.rd_lt Aa))) ⟨122,[],z,call122,fun w Cd Dc r e Aq hx=>by obtain ⟨_,_,rfl,Aq⟩:=Aq; have m:=m.step e; exact c_impl_Check_1 fu _ Aq hx⟩ Bv) fun Ca e a k m=>pN 1 k z fun a k=>nn (cI h k z (fun Bj h=>?_) fun Bj h=>?_)
 · refine wr (pN 1 k z fun a k=>nn (wp_ret (rt_then ?_)))
   refine fS h k m z z
 refine wp_skip (nm_then ?_)
 exact ⟨k.keep [2,3] z,m.sel [1,0] z (by decide),h⟩
theorem c_impl_Feasible (fu:Nat) {w0:World} (r1:Request) (x5:Plan) {Af:List Value} {F3:List Nat} (Aq:rd w0 F3 Af r1) {Ac:List Value} {F7:List Nat} (Ao:rd w0 F7 Ac x5) {r:Bool}
    (h:d_impl_Feasible fu r1 x5 = some r) :
    Calls Tryz.prog 44 #[.agg Af.toArray,.agg Ac.toArray] w0 fun e w=>e = .returned (.bool (r)) ∧ Ext [] w0 w:=by
 refine enter (vs:=[_,_]) func44 z ntmps44 z fun a k=>?_
 have m:=St.start w0
 obtain ⟨v9,Ax,Ae,At,Ab,Aw,rfl,rfl,Ah,Aj,Ag⟩:=Aq
 obtain ⟨Ad,As,Aa,Az,rfl,rfl,Ai,Ak⟩:=Ao
 unfold d_impl_Feasible at h
 refine wr (s_box (cs:=[I r1.fWay,I r1.fPallet.fW,I r1.fPallet.fD,I r1.fPallet.fH,I r1.fPallet.fGram,I r1.fClasses,v9,Ae,I r1.fMaster,Ab]) m k z z z z z z fun Ay Bb a k m e Ap=>s_box (cs:=[Ad,Aa]) m k z z z z z z fun Av Ar a k m e Al=>pN 1 k z fun a k=>nn (wr (sv k z (r_ldB ta30 m 1 Ap 0 k z z z z z z) fun a k=>sv k z (r_ldB ta74 m 0 Al 0 k z z z z z z) fun a k=>oE h fun Au Am h=>?_)))
 refine cE k m call41 z z z (c_impl_Check fu _ _ (show rd _ _ [I r1.fWay,I r1.fPallet.fW,I r1.fPallet.fD,I r1.fPallet.fH,I r1.fPallet.fGram,I r1.fClasses,v9,Ae,I r1.fMaster,Ab] (r1:Request) from ⟨_,_,_,_,_,_,z,z,(Enc.rd_agr Ah (m.a00 (Enc.rd_lt Ah))),(Enc.rd_agr Aj (m.a00 (Enc.rd_lt Aj))),(Enc.rd_agr Ag (m.a00 (Enc.rd_lt Ag)))⟩) (show rd _ _ [Ad,Aa] (x5:Plan) from ⟨_,_,_,_,z,z,(Enc.rd_agr Ai (m.a00 (Enc.rd_lt Ai))),(Enc.rd_agr Ak (m.a00 (Enc.rd_lt Ak)))⟩) Am) fun Ba e a k m=>pN 2 k z fun a k=>nn (wp_ret (fS h k m z z))
theorem c_impl_turned (fu:Nat) {w0:World} (r1:Request) (x5:Plan) (f9:Box → Spot → Option Spot) {Bp:List Value} {F3:List Nat} (Cm:rd w0 F3 Bp r1) {Bi:List Value} {F7:List Nat} (Cx:rd w0 F7 Bi x5) {Be:Value} (Cj:FnOk2 Tryz.prog w0 Be f9) {r:Plan}
    (h:d_impl_turned fu r1 x5 f9 = some r) :
    Calls Tryz.prog 134 #[.agg Bp.toArray,.agg Bi.toArray,Be] w0 fun e w=>∃ (Bn:List Value) (G0:List Nat),e = .returned (.agg Bn.toArray) ∧ Ext [] w0 w ∧ ow w G0 Bn r ∧ (∀ b ∈ G0,w0.heap.size ≤ b):=by
 refine enter (vs:=[_,_,_]) func134 z ntmps134 z fun a k=>?_
 have m:=St.start w0
 obtain ⟨Az,Dc,Au,Dg,Bb,Dq,rfl,rfl,Al,Ar,Ah⟩:=Cm
 obtain ⟨Aq,Dt,Ay,Dy,rfl,rfl,Aa,Ab⟩:=Cx
 obtain ⟨Cv,Cr,rfl,Cl,Cn⟩:=Cj
 unfold d_impl_turned at h
 refine wr (s_box (cs:=[I r1.fWay,I r1.fPallet.fW,I r1.fPallet.fD,I r1.fPallet.fH,I r1.fPallet.fGram,I r1.fClasses,Az,Au,I r1.fMaster,Bb]) m k z z z z z z fun Bj Bw a k m e Bt=>s_box (cs:=[Aq,Ay]) m k z z z z z z fun Br Ci a k m e Ak=>s_alloc (cs:=[.slice none 0 0,.slice none 0 0]) m k zeroValue74 z z z z z fun Bl Cd a k m e Bo=>nn (wr (sv k z (r_ldB ta74 m 1 Ak 0 k z z z z z z) fun a k=>oE h fun Bk Cf h=>s_call k call144 z z z z z (c_impl_clonePlan fu _ (show rd _ _ [Aq,Ay] (x5:Plan) from ⟨_,_,_,_,z,z,(Enc.rd_agr Aa (m.a00 (Enc.rd_lt Aa))),(Enc.rd_agr Ab (m.a00 (Enc.rd_lt Ab)))⟩) Cf) fun Dx Bh hR=>?_)))
 obtain ⟨Di,Ca,rfl,e,As,Cq⟩:=hR
 refine ⟨_,z,fun a k=>?_⟩
 have m:=m.new e Ca (fun b hb=>⟨Cq b hb,Enc.rd_lt (Enc.ow_rd As) b hb⟩) (Enc.ow_nd As)
 obtain ⟨Ap,Ax,Bc,Bg,rfl,rfl,Ad,Ai,_⟩:=As
 have m:=m.split2
 refine s_alloc (cs:=[.slice none 0 0,.slice none 0 0]) m k zeroValue74 z z z z z fun Aw Dp a k m e Ct=>s_stb (cs':=[Ap,Bc]) sizeOf74 m 0 Ct 0 k z z z z z z z z z z (allc (rd_o (Enc.ow_rd Ad)) (allc (rd_o (Enc.ow_rd Ai)) alln)) fun Cw a k e m Bs=>nn (wp_seq (wr (sv k z (r_ldB ta30 m 5 Bt 0 k z z z z z z) fun a k=>sv k z (r_ldB ta74 m 4 Ak 0 k z z z z z z) fun a k=>oE h fun Ds Co h=>?_)))
 refine cE k m call44 z z z (c_impl_Feasible fu _ _ (show rd _ _ [I r1.fWay,I r1.fPallet.fW,I r1.fPallet.fD,I r1.fPallet.fH,I r1.fPallet.fGram,I r1.fClasses,Az,Au,I r1.fMaster,Bb] (r1:Request) from ⟨_,_,_,_,_,_,z,z,(Enc.rd_agr Al (m.a00 (Enc.rd_lt Al))),(Enc.rd_agr Ar (m.a00 (Enc.rd_lt Ar))),(Enc.rd_agr Ah (m.a00 (Enc.rd_lt Ah)))⟩) (show rd _ _ [Aq,Ay] (x5:Plan) from ⟨_,_,_,_,z,z,(Enc.rd_agr Aa (m.a00 (Enc.rd_lt Aa))),(Enc.rd_agr Ab (m.a00 (Enc.rd_lt Ab)))⟩) Co) fun Du e a k m=>pN 1 k z fun a k=>nn (cI h k z (fun By h=>?_) fun By h=>?_)
 · refine wr (sv k z (r_ldB ta74 m 0 Bs 0 k z z z z z z) fun a k=>s_stb (cs':=[Ap,Bc]) sizeOf74 m 3 Bo 0 k z z z z z z z z z z (allc (rd_o (Enc.ow_rd Ad)) (allc (rd_o (Enc.ow_rd Ai)) alln)) fun Dw a k e m Cc=>nn (wp_ret (rt_then ?_)))
   cases h
   exact finR1 k z (RV.cA k z ta74 (Cc.at (m.a 3 z) 0 2 z z z) z) ⟨_,_,z,m.ext,⟨_,Ax,_,Bg,z,z,(Enc.ow_agr Ad (m.a 1 z)),(Enc.ow_agr Ai (m.a 2 z)),by simpa [fps] using (m.sel [1,2] z (by decide)).nd⟩,(app_fresh (m.fresh 1 z) (m.fresh 2 z))⟩
 refine wp_skip (nm_then ?_)
 refine wp_seq (wr (sv k z (r_fa fa74_0 k z z) fun a k=>sv k z (r_ldb t143 m 4 Ak 0 k z z z z z) fun a k=>sv k z (r_len (α:=Carton) Aa k underlying43 z z) fun a k=>pN 1 k z fun a k=>nn (wp_block ?_)))
 refine c_loop (fun n a w=>∃ (Ao:List Spot) (Ag:Value) (Ac:List Nat) (Av:World) (Am:World) (Ae:Int),K 41 [(2,(.func (.func Cv) #[] Cr.toArray)),(3,.pointer (some (⟨Bj,0,none⟩:Addr))),(4,.pointer (some (⟨Br,0,none⟩:Addr))),(6,.pointer (some (⟨Bl,0,none⟩:Addr))),(7,.pointer (some (⟨Aw,0,none⟩:Addr))),(18,Aq),(19,I ((x5.fCartons.length:Int))),(20,I Ae)] a ∧ St [] w0 w [([Bj],Bw),([Br],Ci),([Bl],Cd),(Ac,Av),([Aw],Am),(Ax,Bh)] ∧ ow Av Ac [Ag] Ao ∧ bx Am Aw [Ap,Ag] 74 ∧ d_impl_turned_L1 fu r1 x5 f9 Bk n Ao Ae = some r) ?_ ?_ fu _ _ ?_
 · rintro a w ⟨_,_,_,_,_,_,_,_,_,_,h⟩
   exact nS h
 · rintro Do a Dk ⟨Ao,Ag,Ac,Av,Am,Ae,k,m,Aj,At,h⟩
   rw [d_impl_turned_L1_s] at h
   unfold d_impl_turned_L1_B at h
   refine wr (pN 1 k z fun a k=>nn (wp_seq (cI h k z (fun Ce h=>?_) fun Ce h=>?_)))
   · refine wp_skip (nm_then ?_)
     refine wp_seq (wp_block (wr (pN 1 k z fun a k=>oE h fun Af Bq h=>sv k z (r_ixa Aa Bq k ts43 z z z) fun a k=>?_)))
     obtain ⟨Da,Df,Dm,Ck,Cg,Bz⟩:=rd_get Aa (ix_some Bq).2.2
     obtain ⟨Bu,_,rfl,rfl,Ba⟩:=Ck
     refine sv k z (r_ldA ta33 (Cg.agr (m.a00 (Enc.rd_lt Aa)) Bz) z k z z) fun a k=>s_alloc (cs:=[I 0,I 0,.slice none 0 0]) m k zeroValue33 z z z z z fun Dd De a k m e Cp=>pN 1 k z fun a k=>s_stb (cs':=[I Af.fType,I Af.fGroup,Bu]) sizeOf33 m 0 Cp 0 k z z z z z z z z z z (allc z (allc z (allc (rd_o Ba) alln))) fun Dn a k e m Cs=>nn (d_go (Ac) mixo m z fun Bv hMd=>?_)
     have m:=hMd
     have s:=Ext.refl ((Ac):List Nat) Bv
     refine dN [2,3,9] 3 z k (by kernel_rfl) z s (fun _ _ _ _ _=>id) fun a k=>dt k 0 z (by kernel_rfl) z s (fun _ _ _=>id) (fun w s=>r_fa fa74_1 k z z) fun a k=>dt k 1 z (by kernel_rfl) z s (fun _ _ _=>id) (fun w s=>r_ld1 t172 (r:=[]) (At.at (hMd.az 5 4 z z z s) 1 1 z z z) k z z) fun a k=>dt k 4 z (by kernel_rfl) z s (fun _ _ _=>id) (fun w s=>r_ldA ta30 (Bt.at (hMd.az 1 4 z z z s) 0 10 z z z) z k z z) fun a k=>dt k 5 z (by kernel_rfl) z s (fun _ _ _=>id) (fun w s=>r_ldA ta33 (Cs.at (hMd.az 0 4 z z z s) 0 3 z z z) z k z z) fun a k=>dt k 7 z (by kernel_rfl) z s (fun _ _ _=>id) (fun w s=>r_fa fa74_1 k z z) fun a k=>?_
     refine dt k 8 z (by kernel_rfl) z s (fun _ _ _=>id) (fun w s=>r_ld1 t172 (r:=[]) (Ak.at (hMd.az 2 4 z z z s) 1 1 z z z) k z z) fun a k=>oE h fun Dj Bm h=>dt k 10 z (by kernel_rfl) z s (fun _ _ _=>id) (fun w s=>r_ixa Ab Bm k ts72 z z z) fun a k=>dt k 11 z (by kernel_rfl) z s (fun _ _ _=>id) (fun w s=>r_lde Ab (hMd.az0 4 z z (Enc.rd_lt Ab) s) Bm ta139 k z z) fun a k=>d_one 6 (by kernel_rfl) z (oE h fun Dh Bx h=>?_)
     refine cE k m call152 z z z (c_impl_BoxOf fu _ _ (show rd _ _ [I r1.fWay,I r1.fPallet.fW,I r1.fPallet.fD,I r1.fPallet.fH,I r1.fPallet.fGram,I r1.fClasses,Az,Au,I r1.fMaster,Bb] (r1:Request) from ⟨_,_,_,_,_,_,z,z,(Enc.rd_agr Al (m.a00 (Enc.rd_lt Al))),(Enc.rd_agr Ar (m.a00 (Enc.rd_lt Ar))),(Enc.rd_agr Ah (m.a00 (Enc.rd_lt Ah)))⟩) (show rd _ _ [I Af.fType,I Af.fGroup,Bu] (Af:Carton) from ⟨_,_,z,z,(Enc.rd_agr Ba (m.a00 (Enc.rd_lt Ba)))⟩) Bx) fun Dr e a k m=>?_
     have s:=s.trans e (by simp)
     refine wpList_nil ⟨s,?_⟩
     refine d_one 12 (by kernel_rfl) z (oE h fun Bd Cy h=>s_callv k Cl z z z z z z (Cn _ _ _ _ _ _ m.ext z z Cy) fun Db Dl hR=>?_)
     obtain ⟨rfl,e⟩:=hR
     refine ⟨_,z,fun a k=>?_⟩
     have m:=m.step e
     have s:=s.trans e (by simp)
     refine wpList_nil ⟨s,?_⟩
     refine oE h fun Cz Bf h=>dt k 13 z (by kernel_rfl) z s (fun _ _ _=>id) (fun w s=>r_ixa (Enc.ow_rd Aj) Bf k ts72 z z z) fun a k=>d_one 14 (by kernel_rfl) z (s_ste (α:=Spot) (sz:=4) (y:=Bd) sizeOf139 Bf m 4 Aj 0 k z z z z z z z z z z z z fun Cb a k e m Ch=>?_)
     have s:=s.trans e (fun y hy=>Or.inl hy)
     refine wpList_nil ⟨s,?_⟩
     refine d_done (by kernel_rfl) ((nm_block (nm_then ?_)))
     refine wp_region_lit (pN 2 k z fun a k=>nn ?_)
     exact ⟨setx Ao Ae Bd,Ag,Ac,Cb,Am,w64 (Ae + 1),k.keep [2,3,4,6,7,18,19,20] z,m.sel [1,2,3,4,5,6] z (by decide),Ch,At,h⟩
   refine wp_exit (ex_then (ex_then (ex_same (nm_then ?_))))
   refine wr (sv k z (r_ldB ta74 m 4 At 0 k z z z z z z) fun a k=>s_stb (cs':=[Ap,Ag]) sizeOf74 m 2 Bo 0 k z z z z z z z z z z (allc (rd_o (Enc.ow_rd Ad)) (allc (rd_o (Enc.ow_rd Aj)) alln)) fun Dv a k e m Cu=>nn (wp_ret ?_))
   cases h
   exact finR1 k z (RV.cA k z ta74 (Cu.at (m.a 2 z) 0 2 z z z) z) ⟨_,_,z,m.ext,⟨_,Ax,_,Ac,z,z,(Enc.ow_agr Ad (m.a 5 z)),(Enc.ow_agr Aj (m.a 3 z)),by simpa [fps] using (m.sel [5,3] z (by decide)).nd⟩,(app_fresh (m.fresh 5 z) (m.fresh 3 z))⟩
 exact ⟨Bk.fSpots,Bc,Bg,Bh,Cw,0,k.keep [2,3,4,6,7,18,19,20] z,m.sel [5,4,3,2,0,1] z (by decide),Ai,Bs,h⟩
theorem c_impl_Front (fu:Nat) {w0:World} (r1:Request) (x5:Plan) {Al:List Value} {F3:List Nat} (Bd:rd w0 F3 Al r1) {Ai:List Value} {F7:List Nat} (Ba:rd w0 F7 Ai x5) {r:Plan}
    (h:d_impl_Front fu r1 x5 = some r) :
    Calls Tryz.prog 46 #[.agg Al.toArray,.agg Ai.toArray] w0 fun e w=>∃ (Ag:List Value) (G0:List Nat),e = .returned (.agg Ag.toArray) ∧ Ext [] w0 w ∧ ow w G0 Ag r ∧ (∀ b ∈ G0,w0.heap.size ≤ b):=by
 refine enter (vs:=[_,_]) func46 z ntmps46 z fun a k=>?_
 have m:=St.start w0
 obtain ⟨v9,Bp,Ak,Bk,Ah,Bo,rfl,rfl,Ab,Ac,Aa⟩:=Bd
 obtain ⟨Aj,Bi,Af,Bq,rfl,rfl,Am,Aq⟩:=Ba
 unfold d_impl_Front at h
 refine wr (s_box (cs:=[I r1.fWay,I r1.fPallet.fW,I r1.fPallet.fD,I r1.fPallet.fH,I r1.fPallet.fGram,I r1.fClasses,v9,Ak,I r1.fMaster,Ah]) m k z z z z z z fun Ax Bx a k m e Ao=>s_box (cs:=[Aj,Af]) m k z z z z z z fun Bm Bg a k m e As=>s_alloc (cs:=[.slice none 0 0,.slice none 0 0]) m k zeroValue74 z z z z z fun Bu Bs a k m e Aw=>nn (wr (sv k z (r_ldB ta30 m 2 Ao 0 k z z z z z z) fun a k=>sv k z (r_ldB ta74 m 1 As 0 k z z z z z z) fun a k=>pN 1 k z fun a k=>oE h fun Bl Be h=>?_)))
 refine s_call k call134 z z z z z (c_impl_turned fu _ _ _ (show rd _ _ [I r1.fWay,I r1.fPallet.fW,I r1.fPallet.fD,I r1.fPallet.fH,I r1.fPallet.fGram,I r1.fClasses,v9,Ak,I r1.fMaster,Ah] (r1:Request) from ⟨_,_,_,_,_,_,z,z,(Enc.rd_agr Ab (m.a00 (Enc.rd_lt Ab))),(Enc.rd_agr Ac (m.a00 (Enc.rd_lt Ac))),(Enc.rd_agr Aa (m.a00 (Enc.rd_lt Aa)))⟩) (show rd _ _ [Aj,Af] (x5:Plan) from ⟨_,_,_,_,z,z,(Enc.rd_agr Am (m.a00 (Enc.rd_lt Am))),(Enc.rd_agr Aq (m.a00 (Enc.rd_lt Aq)))⟩) ⟨135,[.pointer (some (⟨Ax,0,none⟩:Addr))],z,call135,fun w Br Bh Bt Bj r e At Au hx=>by subst At; subst Au; have m:=m.step e; exact c_impl_Front_1 fu _ _ _ (Ao.agr (m.a 2 rfl) (by simp)) (Enc.rd_agr Ab (m.a00 (Enc.rd_lt Ab))) (Enc.rd_agr Ac (m.a00 (Enc.rd_lt Ac))) (Enc.rd_agr Aa (m.a00 (Enc.rd_lt Aa))) hx⟩ Be) fun Bv Bn hR=>?_
 obtain ⟨Bw,Bb,rfl,e,Ad,Bc⟩:=hR
 refine ⟨_,z,fun a k=>?_⟩
 have m:=m.new e Bb (fun b hb=>⟨Bc b hb,Enc.rd_lt (Enc.ow_rd Ad) b hb⟩) (Enc.ow_nd Ad)
 obtain ⟨Ar,Az,Av,Bf,rfl,rfl,Ae,Ap,_⟩:=Ad
 have m:=m.split2
 refine s_stb (cs':=[Ar,Av]) sizeOf74 m 2 Aw 0 k z z z z z z z z z z (allc (rd_o (Enc.ow_rd Ae)) (allc (rd_o (Enc.ow_rd Ap)) alln)) fun By a k e m Ay=>nn (wp_ret ?_)
 cases h
 exact finR1 k z (RV.cA k z ta74 (Ay.at (m.a 2 z) 0 2 z z z) z) ⟨_,_,z,m.ext,⟨_,Az,_,Bf,z,z,(Enc.ow_agr Ae (m.a 0 z)),(Enc.ow_agr Ap (m.a 1 z)),by simpa [fps] using (m.sel [0,1] z (by decide)).nd⟩,(app_fresh (m.fresh 0 z) (m.fresh 1 z))⟩

end Go.Proofs.YtlmibnlfkmiikaaGreat
