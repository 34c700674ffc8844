/- FnExactFront: the walks of functions that it reaches (ExactFrontBWi,part 3). Printed by gen.py. -/
import Derived.Test.YtlmibnlfkmiikaaGreatExactFrontBWi2
set_option maxRecDepth 20000
set_option linter.unusedSimpArgs false
set_option linter.unusedVariables false
namespace Go.Proofs.YtlmibnlfkmiikaaGreat
open Go Go.RowKit
open Enc (rd ow)
open Arg (argv)
open Ret (retv)
open Go.Proofs.Tryz

theorem c_impl_Within (fu:Nat) {w0:World} (p1:Pallet) (b2:Box) (Aa:Spot)  {r:Bool}
    (h:d_impl_Within fu p1 b2 Aa = some r) :
    Calls Tryz.prog 218 #[.agg (Flat.e (p1)).toArray,.agg (Flat.e (b2)).toArray,.agg (Flat.e (Aa)).toArray] w0 fun e w=>e = .returned (.bool (r)) ∧ Ext [] w0 w:=by
 refine enter (vs:=[_,_,_]) func218 z ntmps218 z fun a k=>?_
 have m:=St.start w0
 unfold d_impl_Within at h
 refine wr (s_box (cs:=[I p1.fW,I p1.fD,I p1.fH,I p1.fGram]) m k z z z z z z fun b4 w6 a k m e Ak=>s_box (cs:=[I b2.fW,I b2.fD,I b2.fH,I b2.fGram]) m k z z z z z z fun b7 w9 a k m e Ac=>s_box (cs:=[I Aa.fPallet,I Aa.fX,I Aa.fY,I Aa.fZ]) m k z z z z z z fun Al At a k m e Ab=>pN 1 k z fun a k=>nn (c_cut (fun a w=>K 69 [(3,.pointer (some (⟨b4,0,none⟩:Addr))),(4,.pointer (some (⟨b7,0,none⟩:Addr))),(5,.pointer (some (⟨Al,0,none⟩:Addr)))] a ∧ St [] w0 w [([b4],w6),([b7],w9),([Al],At)] ∧ d_impl_Within_J1 fu p1 b2 Aa = some r) ?_ ?_))
 · rintro a Bd ⟨k,m,h⟩
   unfold d_impl_Within_J1 at h
   refine wr (sv k z (r_fa fa139_1 k z z) fun a k=>sv k z (r_ldb t13 m 2 Ab 1 k z z z z z) fun a k=>sv k z (r_fa fa140_0 k z z) fun a k=>sv k z (r_ldb t13 m 1 Ac 0 k z z z z z) fun a k=>pN 1 k z fun a k=>sv k z (r_fa fa25_0 k z z) fun a k=>sv k z (r_ldb t13 m 0 Ak 0 k z z z z z) fun a k=>pN 2 k z fun a k=>bsplit (decide ((w64 (Aa.fX + b2.fW)) ≤ p1.fW)) (fun Ah=>?_) (fun Ah=>?_))
   · have h:=bif_t Ah h
     refine rB k 49 z Ah fun k=>sv k z (r_fa fa139_2 k z z) fun a k=>sv k z (r_ldb t13 m 2 Ab 2 k z z z z z) fun a k=>sv k z (r_fa fa140_1 k z z) fun a k=>sv k z (r_ldb t13 m 1 Ac 1 k z z z z z) fun a k=>pN 1 k z fun a k=>sv k z (r_fa fa25_1 k z z) fun a k=>sv k z (r_ldb t13 m 0 Ak 1 k z z z z z) fun a k=>pN 3 k z fun a k=>bsplit (decide ((w64 (Aa.fY + b2.fD)) ≤ p1.fD)) (fun Ae=>?_) (fun Ae=>?_)
     · have h:=bif_t Ae h
       refine rB k 59 z Ae fun k=>sv k z (r_fa fa139_3 k z z) fun a k=>sv k z (r_ldb t13 m 2 Ab 3 k z z z z z) fun a k=>sv k z (r_fa fa140_2 k z z) fun a k=>sv k z (r_ldb t13 m 1 Ac 2 k z z z z z) fun a k=>pN 1 k z fun a k=>sv k z (r_fa fa25_2 k z z) fun a k=>sv k z (r_ldb t13 m 0 Ak 2 k z z z z z) fun a k=>pN 3 k z fun a k=>?_
       have k:=k.keep [6] z
       refine nn (wp_ret (fS h k m z z))
     have h:=bif_f Ae h
     refine rB k 59 z Ae fun k=>pN 10 k z fun a k=>?_
     have k:=k.keep [6] z
     refine nn (wp_ret (fS h k m z z))
   have h:=bif_f Ah h
   refine rB k 49 z Ah fun k=>pN 20 k z fun a k=>?_
   have k:=k.keep [6] z
   refine nn (wp_ret (fS h k m z z))
 refine wr (sv k z (r_fa fa139_1 k z z) fun a k=>sv k z (r_ldb t13 m 0 Ab 1 k z z z z z) fun a k=>oE h fun Ao Az h=>cE k m call211 z z z (c_impl_isPlace fu _  Az) fun Bb e a k m=>pN 2 k z fun a k=>bsplit (!Ao) (fun Ad=>?_) (fun Ad=>?_))
 · have h:=bif_t Ad h
   refine rB k 11 z Ad fun k=>pN 29 k z fun a k=>?_
   have k:=k.keep [3,4,5,40] z
   refine nn (wp_cond_true (k.ev z) (wr (pN 1 k z fun a k=>nn (wp_ret (rt_then ?_)))))
   refine fS h k m z z
 have h:=bif_f Ad h
 refine rB k 11 z Ad fun k=>sv k z (r_fa fa139_2 k z z) fun a k=>sv k z (r_ldb t13 m 0 Ab 2 k z z z z z) fun a k=>oE h fun Ar Ap h=>cE k m call211 z z z (c_impl_isPlace fu _  Ap) fun Bh e a k m=>pN 3 k z fun a k=>bsplit (!Ar) (fun Ai=>?_) (fun Ai=>?_)
 · have h:=bif_t Ai h
   refine rB k 17 z Ai fun k=>pN 23 k z fun a k=>?_
   have k:=k.keep [3,4,5,40] z
   refine nn (wp_cond_true (k.ev z) (wr (pN 1 k z fun a k=>nn (wp_ret (rt_then ?_)))))
   refine fS h k m z z
 have h:=bif_f Ai h
 refine rB k 17 z Ai fun k=>sv k z (r_fa fa139_3 k z z) fun a k=>sv k z (r_ldb t13 m 0 Ab 3 k z z z z z) fun a k=>oE h fun Au Aw h=>cE k m call211 z z z (c_impl_isPlace fu _  Aw) fun Bf e a k m=>pN 3 k z fun a k=>bsplit (!Au) (fun Aj=>?_) (fun Aj=>?_)
 · have h:=bif_t Aj h
   refine rB k 23 z Aj fun k=>pN 17 k z fun a k=>?_
   have k:=k.keep [3,4,5,40] z
   refine nn (wp_cond_true (k.ev z) (wr (pN 1 k z fun a k=>nn (wp_ret (rt_then ?_)))))
   refine fS h k m z z
 have h:=bif_f Aj h
 refine rB k 23 z Aj fun k=>sv k z (r_fa fa140_0 k z z) fun a k=>sv k z (r_ldb t13 m 1 Ac 0 k z z z z z) fun a k=>oE h fun Av Aq h=>cE k m call274 z z z (c_impl_isSide fu _  Aq) fun Ba e a k m=>pN 3 k z fun a k=>bsplit (!Av) (fun Ag=>?_) (fun Ag=>?_)
 · have h:=bif_t Ag h
   refine rB k 29 z Ag fun k=>pN 11 k z fun a k=>?_
   have k:=k.keep [3,4,5,40] z
   refine nn (wp_cond_true (k.ev z) (wr (pN 1 k z fun a k=>nn (wp_ret (rt_then ?_)))))
   refine fS h k m z z
 have h:=bif_f Ag h
 refine rB k 29 z Ag fun k=>sv k z (r_fa fa140_1 k z z) fun a k=>sv k z (r_ldb t13 m 1 Ac 1 k z z z z z) fun a k=>oE h fun As Ax h=>cE k m call274 z z z (c_impl_isSide fu _  Ax) fun Bc e a k m=>pN 3 k z fun a k=>bsplit (!As) (fun Af=>?_) (fun Af=>?_)
 · have h:=bif_t Af h
   refine rB k 35 z Af fun k=>pN 5 k z fun a k=>?_
   have k:=k.keep [3,4,5,40] z
   refine nn (wp_cond_true (k.ev z) (wr (pN 1 k z fun a k=>nn (wp_ret (rt_then ?_)))))
   refine fS h k m z z
 have h:=bif_f Af h
 refine rB k 35 z Af fun k=>sv k z (r_fa fa140_2 k z z) fun a k=>sv k z (r_ldb t13 m 1 Ac 2 k z z z z z) fun a k=>oE h fun Be Ay h=>cE k m call274 z z z (c_impl_isSide fu _  Ay) fun Bg e a k m=>pN 2 k z fun a k=>?_
 have k:=k.keep [3,4,5,40] z
 refine nn (cI h k z (fun Am h=>?_) fun Am h=>?_)
 · refine wr (pN 1 k z fun a k=>nn (wp_ret (rt_then ?_)))
   refine fS h k m z z
 refine wp_skip (nm_then ?_)
 exact ⟨k.keep [3,4,5] z,m.sel [2,1,0] z (by decide),h⟩
theorem c_impl_placed (fu:Nat) {w0:World} (b1:Box) (Aa:Spot)  {r:Bool}
    (h:d_impl_placed fu b1 Aa = some r) :
    Calls Tryz.prog 229 #[.agg (Flat.e (b1)).toArray,.agg (Flat.e (Aa)).toArray] w0 fun e w=>e = .returned (.bool (r)) ∧ Ext [] w0 w:=by
 refine enter (vs:=[_,_]) func229 z ntmps229 z fun a k=>?_
 have m:=St.start w0
 unfold d_impl_placed at h
 refine wr (s_box (cs:=[I b1.fW,I b1.fD,I b1.fH,I b1.fGram]) m k z z z z z z fun b3 w5 a k m e Ah=>s_box (cs:=[I Aa.fPallet,I Aa.fX,I Aa.fY,I Aa.fZ]) m k z z z z z z fun b6 w9 a k m e Ag=>pN 1 k z fun a k=>nn (wr (sv k z (r_fa fa140_0 k z z) fun a k=>sv k z (r_ldb t13 m 1 Ah 0 k z z z z z) fun a k=>oE h fun Aj At h=>cE k m call211 z z z (c_impl_isPlace fu _  At) fun Ay e a k m=>pN 1 k z fun a k=>bsplit (Aj) (fun Af=>?_) (fun Af=>?_))))
 · have h:=bif_t Af h
   refine rB k 8 z Af fun k=>sv k z (r_fa fa140_1 k z z) fun a k=>sv k z (r_ldb t13 m 1 Ah 1 k z z z z z) fun a k=>oE h fun Aq Ai h=>cE k m call211 z z z (c_impl_isPlace fu _  Ai) fun Az e a k m=>pN 2 k z fun a k=>bsplit (Aq) (fun Ac=>?_) (fun Ac=>?_)
   · have h:=bif_t Ac h
     refine rB k 13 z Ac fun k=>sv k z (r_fa fa140_2 k z z) fun a k=>sv k z (r_ldb t13 m 1 Ah 2 k z z z z z) fun a k=>oE h fun Am Ao h=>cE k m call211 z z z (c_impl_isPlace fu _  Ao) fun Au e a k m=>pN 2 k z fun a k=>bsplit (Am) (fun Ae=>?_) (fun Ae=>?_)
     · have h:=bif_t Ae h
       refine rB k 18 z Ae fun k=>sv k z (r_fa fa139_1 k z z) fun a k=>sv k z (r_ldb t13 m 0 Ag 1 k z z z z z) fun a k=>oE h fun Ak As h=>cE k m call211 z z z (c_impl_isPlace fu _  As) fun Av e a k m=>pN 2 k z fun a k=>bsplit (Ak) (fun Ab=>?_) (fun Ab=>?_)
       · have h:=bif_t Ab h
         refine rB k 23 z Ab fun k=>sv k z (r_fa fa139_2 k z z) fun a k=>sv k z (r_ldb t13 m 0 Ag 2 k z z z z z) fun a k=>oE h fun Ap Ar h=>cE k m call211 z z z (c_impl_isPlace fu _  Ar) fun Aw e a k m=>pN 2 k z fun a k=>bsplit (Ap) (fun Ad=>?_) (fun Ad=>?_)
         · have h:=bif_t Ad h
           refine rB k 28 z Ad fun k=>sv k z (r_fa fa139_3 k z z) fun a k=>sv k z (r_ldb t13 m 0 Ag 3 k z z z z z) fun a k=>oE h fun Ba Al h=>cE k m call211 z z z (c_impl_isPlace fu _  Al) fun Ax e a k m=>pN 2 k z fun a k=>?_
           have k:=k.keep [4] z
           refine nn (wp_ret (fS h k m z z))
         have h:=bif_f Ad h
         refine rB k 28 z Ad fun k=>pN 5 k z fun a k=>?_
         have k:=k.keep [4] z
         refine nn (wp_ret (fS h k m z z))
       have h:=bif_f Ab h
       refine rB k 23 z Ab fun k=>pN 10 k z fun a k=>?_
       have k:=k.keep [4] z
       refine nn (wp_ret (fS h k m z z))
     have h:=bif_f Ae h
     refine rB k 18 z Ae fun k=>pN 15 k z fun a k=>?_
     have k:=k.keep [4] z
     refine nn (wp_ret (fS h k m z z))
   have h:=bif_f Ac h
   refine rB k 13 z Ac fun k=>pN 20 k z fun a k=>?_
   have k:=k.keep [4] z
   refine nn (wp_ret (fS h k m z z))
 have h:=bif_f Af h
 refine rB k 8 z Af fun k=>pN 25 k z fun a k=>?_
 have k:=k.keep [4] z
 refine nn (wp_ret (fS h k m z z))
theorem c_impl_cross (fu:Nat) {w0:World} (a1:Int) (Ac:Int) (b3:Int) (Ab:Int)  {r:Bool}
    (h:d_impl_cross fu a1 Ac b3 Ab = some r) :
    Calls Tryz.prog 230 #[I a1,I Ac,I b3,I Ab] w0 fun e w=>e = .returned (.bool (r)) ∧ Ext [] w0 w:=by
 refine enter (vs:=[_,_,_,_]) func230 z ntmps230 z fun a k=>?_
 have m:=St.start w0
 unfold d_impl_cross at h
 refine wr (pN 1 k z fun a k=>nn (wr (pN 6 k z fun a k=>bsplit (decide (a1 < (w64 (b3 + Ab)))) (fun Aa=>?_) (fun Aa=>?_))))
 · have h:=bif_t Aa h
   refine rB k 14 z Aa fun k=>pN 7 k z fun a k=>nn (wp_ret (fS h k m z z))
 have h:=bif_f Aa h
 refine rB k 14 z Aa fun k=>pN 7 k z fun a k=>nn (wp_ret (fS h k m z z))
theorem c_impl_Overlap (fu:Nat) {w0:World} (a1:Box) (Aa:Spot) (b3:Box) (t4:Spot)  {r:Bool}
    (h:d_impl_Overlap fu a1 Aa b3 t4 = some r) :
    Calls Tryz.prog 153 #[.agg (Flat.e (a1)).toArray,.agg (Flat.e (Aa)).toArray,.agg (Flat.e (b3)).toArray,.agg (Flat.e (t4)).toArray] w0 fun e w=>e = .returned (.bool (r)) ∧ Ext [] w0 w:=by
 refine enter (vs:=[_,_,_,_]) func153 z ntmps153 z fun a k=>?_
 have m:=St.start w0
 unfold d_impl_Overlap at h
 refine wr (s_box (cs:=[I a1.fW,I a1.fD,I a1.fH,I a1.fGram]) m k z z z z z z fun b5 w7 a k m e Ah=>s_box (cs:=[I Aa.fPallet,I Aa.fX,I Aa.fY,I Aa.fZ]) m k z z z z z z fun b8 Aq a k m e Ae=>s_box (cs:=[I b3.fW,I b3.fD,I b3.fH,I b3.fGram]) m k z z z z z z fun Aj Aw a k m e Ai=>s_box (cs:=[I t4.fPallet,I t4.fX,I t4.fY,I t4.fZ]) m k z z z z z z fun Ak Av a k m e Ad=>pN 1 k z fun a k=>nn ?_)
 refine c_cut (fun a w=>K 57 [(4,.pointer (some (⟨b5,0,none⟩:Addr))),(5,.pointer (some (⟨b8,0,none⟩:Addr))),(6,.pointer (some (⟨Aj,0,none⟩:Addr))),(7,.pointer (some (⟨Ak,0,none⟩:Addr)))] a ∧ St [] w0 w [([b5],w7),([b8],Aq),([Aj],Aw),([Ak],Av)] ∧ d_impl_Overlap_J1 fu a1 Aa b3 t4 = some r) ?_ ?_
 · rintro a Ba ⟨k,m,h⟩
   unfold d_impl_Overlap_J1 at h
   refine wr (sv k z (r_fa fa139_1 k z z) fun a k=>sv k z (r_ldb t13 m 1 Ae 1 k z z z z z) fun a k=>sv k z (r_fa fa140_0 k z z) fun a k=>sv k z (r_ldb t13 m 0 Ah 0 k z z z z z) fun a k=>sv k z (r_fa fa139_1 k z z) fun a k=>sv k z (r_ldb t13 m 3 Ad 1 k z z z z z) fun a k=>sv k z (r_fa fa140_0 k z z) fun a k=>sv k z (r_ldb t13 m 2 Ai 0 k z z z z z) fun a k=>oE h fun Au Ao h=>cE k m call230 z z z (c_impl_cross fu _ _ _ _  Ao) fun Bf e a k m=>pN 1 k z fun a k=>bsplit (Au) (fun Ab=>?_) (fun Ab=>?_))
   · have h:=bif_t Ab h
     refine rB k 35 z Ab fun k=>sv k z (r_fa fa139_2 k z z) fun a k=>sv k z (r_ldb t13 m 1 Ae 2 k z z z z z) fun a k=>sv k z (r_fa fa140_1 k z z) fun a k=>sv k z (r_ldb t13 m 0 Ah 1 k z z z z z) fun a k=>sv k z (r_fa fa139_2 k z z) fun a k=>sv k z (r_ldb t13 m 3 Ad 2 k z z z z z) fun a k=>sv k z (r_fa fa140_1 k z z) fun a k=>sv k z (r_ldb t13 m 2 Ai 1 k z z z z z) fun a k=>oE h fun Ay At h=>cE k m call230 z z z (c_impl_cross fu _ _ _ _  At) fun Bd e a k m=>pN 2 k z fun a k=>bsplit (Ay) (fun Ac=>?_) (fun Ac=>?_)
     · have h:=bif_t Ac h
       refine rB k 46 z Ac fun k=>sv k z (r_fa fa139_3 k z z) fun a k=>sv k z (r_ldb t13 m 1 Ae 3 k z z z z z) fun a k=>sv k z (r_fa fa140_2 k z z) fun a k=>sv k z (r_ldb t13 m 0 Ah 2 k z z z z z) fun a k=>sv k z (r_fa fa139_3 k z z) fun a k=>sv k z (r_ldb t13 m 3 Ad 3 k z z z z z) fun a k=>sv k z (r_fa fa140_2 k z z) fun a k=>sv k z (r_ldb t13 m 2 Ai 2 k z z z z z) fun a k=>oE h fun Bb Ax h=>cE k m call230 z z z (c_impl_cross fu _ _ _ _  Ax) fun Bc e a k m=>pN 2 k z fun a k=>?_
       have k:=k.keep [8] z
       refine nn (wp_ret (fS h k m z z))
     have h:=bif_f Ac h
     refine rB k 46 z Ac fun k=>pN 11 k z fun a k=>?_
     have k:=k.keep [8] z
     refine nn (wp_ret (fS h k m z z))
   have h:=bif_f Ab h
   refine rB k 35 z Ab fun k=>pN 22 k z fun a k=>?_
   have k:=k.keep [8] z
   refine nn (wp_ret (fS h k m z z))
 refine wr (sv k z (r_ldB ta140 m 3 Ah 0 k z z z z z z) fun a k=>sv k z (r_ldB ta139 m 2 Ae 0 k z z z z z z) fun a k=>oE h fun Al Am h=>cE k m call229 z z z (c_impl_placed fu (a1:Box) (Aa:Spot)  Am) fun Be e a k m=>pN 2 k z fun a k=>bsplit (!Al) (fun Ag=>?_) (fun Ag=>?_))
 · have h:=bif_t Ag h
   refine rB k 13 z Ag fun k=>pN 12 k z fun a k=>nn (wp_cond_true (k.ev z) (wr (pN 1 k z fun a k=>nn (wp_ret (rt_then ?_)))))
   refine fS h k m z z
 have h:=bif_f Ag h
 refine rB k 13 z Ag fun k=>sv k z (r_ldB ta140 m 1 Ai 0 k z z z z z z) fun a k=>sv k z (r_ldB ta139 m 0 Ad 0 k z z z z z z) fun a k=>oE h fun Ap Ar h=>cE k m call229 z z z (c_impl_placed fu (b3:Box) (t4:Spot)  Ar) fun Az e a k m=>pN 3 k z fun a k=>bsplit (!Ap) (fun Af=>?_) (fun Af=>?_)
 · have h:=bif_t Af h
   refine rB k 19 z Af fun k=>pN 6 k z fun a k=>nn (wp_cond_true (k.ev z) (wr (pN 1 k z fun a k=>nn (wp_ret (rt_then ?_)))))
   refine fS h k m z z
 have h:=bif_f Af h
 refine rB k 19 z Af fun k=>sv k z (r_fa fa139_0 k z z) fun a k=>sv k z (r_ldb t13 m 2 Ae 0 k z z z z z) fun a k=>sv k z (r_fa fa139_0 k z z) fun a k=>sv k z (r_ldb t13 m 0 Ad 0 k z z z z z) fun a k=>pN 2 k z fun a k=>nn (cI h k z (fun As h=>?_) fun As h=>?_)
 · refine wr (pN 1 k z fun a k=>nn (wp_ret (rt_then ?_)))
   refine fS h k m z z
 refine wp_skip (nm_then ?_)
 exact ⟨k.keep [4,5,6,7] z,m.sel [3,2,1,0] z (by decide),h⟩
theorem c_impl_Pallets (fu:Nat) {w0:World} (Aa:List Spot) {v2:Value} {F3:List Nat} (Ae:rd w0 F3 [v2] Aa) {r:Int}
    (h:d_impl_Pallets fu Aa = some r) :
    Calls Tryz.prog 147 #[v2] w0 fun e w=>e = .returned (I r) ∧ Ext [] w0 w:=by
 refine enter (vs:=[_]) func147 z ntmps147 z fun a k=>?_
 have m:=St.start w0
 unfold d_impl_Pallets at h
 refine wr (pN 1 k z fun a k=>nn (wr (pN 1 k z fun a k=>nn (wp_seq (wr (pN 1 k z fun a k=>sv k z (r_len (α:=Spot) Ae k underlying72 z z) fun a k=>pN 1 k z fun a k=>nn (wp_block (c_loop (fun n a w=>∃ (Ac:Int) (Ad:Int),K 22 [(3,I Ac),(6,v2),(7,I ((Aa.length:Int))),(8,I Ad)] a ∧ St [] w0 w [] ∧ d_impl_Pallets_L1 fu Aa n Ac Ad = some r) ?_ ?_ fu _ _ ?_))))))))
 · rintro a w ⟨_,_,_,_,h⟩
   exact nS h
 · rintro Ai a Ar ⟨Ac,Ad,k,m,h⟩
   rw [d_impl_Pallets_L1_s] at h
   unfold d_impl_Pallets_L1_B at h
   refine wr (pN 1 k z fun a k=>nn (wp_seq (cI h k z (fun Al h=>?_) fun Al h=>?_)))
   · refine wp_skip (nm_then ?_)
     refine c_cut (fun a w=>∃ (Af:Int),K 22 [(3,I Af),(6,v2),(7,I ((Aa.length:Int))),(8,I Ad)] a ∧ St [] w0 w [] ∧ d_impl_Pallets_J1 fu (d_impl_Pallets_L1 fu Aa Ai) Ad Af = some r) ?_ ?_
     · rintro a Ap ⟨Af,k,m,h⟩
       unfold d_impl_Pallets_J1 at h
       refine wp_region_lit (pN 2 k z fun a k=>nn ?_)
       exact ⟨Af,w64 (Ad + 1),k.keep [3,6,7,8] z,m.sel [] z (by decide),h⟩
     refine wp_block (wr (oE h fun Ab Ag h=>sv k z (r_ixa Ae Ag k ts72 z z z) fun a k=>sv k z (r_lde Ae (m.a00 (Enc.rd_lt Ae)) Ag ta139 k z z) fun a k=>s_alloc (cs:=[I 0,I 0,I 0,I 0]) m k zeroValue139 z z z z z fun At Au a k m e Am=>s_stb (cs':=[I Ab.fPallet,I Ab.fX,I Ab.fY,I Ab.fZ]) sizeOf139 m 0 Am 0 k z z z z z z z z z z z fun Aq a k e m Ah=>nn (wr (sv k z (r_fa fa139_0 k z z) fun a k=>sv k z (r_ldb t13 m 0 Ah 0 k z z z z z) fun a k=>oE h fun As Aj h=>cE k m call148 z z z (c_impl_in fu _ _ _  Aj) fun Ao e a k m=>nn (cI h k z (fun Ak h=>?_) fun Ak h=>?_)))))
     · refine wp_region_lit (pN 1 k z fun a k=>sv k z (r_fa fa139_0 k z z) fun a k=>sv k z (r_ldb t13 m 0 Ah 0 k z z z z z) fun a k=>pN 3 k z fun a k=>wpList_nil (nm_block (nm_then ?_)))
       exact ⟨if (w64 (Ab.fPallet + 1)) > Ac then w64 (Ab.fPallet + 1) else Ac,k.keep [3,6,7,8] z,m.sel [] z (by decide),h⟩
     refine wp_skip (nm_block (nm_then ?_))
     exact ⟨Ac,k.keep [3,6,7,8] z,m.sel [] z (by decide),h⟩
   refine wp_exit (ex_then (ex_then (ex_same (nm_then ?_))))
   refine wr (pN 2 k z fun a k=>nn (wp_ret (fS h k m z z)))
 exact ⟨0,0,k.keep [3,6,7,8] z,m.sel [] z (by decide),h⟩
theorem c_impl_OnPallet (fu:Nat) {w0:World} (x1:Plan) (Ab:Int) {Aq:List Value} {F3:List Nat} (Au:rd w0 F3 Aq x1) {r:(List Int)}
    (h:d_impl_OnPallet fu x1 Ab = some r) :
    Calls Tryz.prog 219 #[.agg Aq.toArray,I Ab] w0 fun e w=>∃ (v0:Value) (G0:List Nat),e = .returned (v0) ∧ Ext [] w0 w ∧ ow w G0 [v0] r ∧ (∀ b ∈ G0,w0.heap.size ≤ b):=by
 refine enter (vs:=[_,_]) func219 z ntmps219 z fun a k=>?_
 have m:=St.start w0
 obtain ⟨v6,F7,v8,F9,rfl,rfl,Aw,Ac⟩:=Au
 unfold d_impl_OnPallet at h
 refine wr (s_box (cs:=[v6,v8]) m k z z z z z z fun Bv Bw a k m e Ao=>pN 1 k z fun a k=>nn (wp_seq (wr (sv k z (r_fa fa74_1 k z z) fun a k=>sv k z (r_ldb t172 m 0 Ao 1 k z z z z z) fun a k=>sv k z (r_len (α:=Spot) Ac k underlying72 z z) fun a k=>sv k z (r_fa fa74_0 k z z) fun a k=>sv k z (r_ldb t143 m 0 Ao 0 k z z z z z) fun a k=>sv k z (r_len (α:=Carton) Aw k underlying43 z z) fun a k=>pN 1 k z fun a k=>nn (cI h k z (fun Ax h=>?_) fun Ax h=>?_)))))
 · refine wr (pN 1 k z fun a k=>nn (wp_ret (rt_then ?_)))
   cases h
   exact finR1 k z (RV.tmp k z) ⟨_,[],z,m.ext,(ow_nil _),(by simp)⟩
 refine wp_skip (nm_then ?_)
 refine wr (s_bs (cs:=[]) (ps:=[]) te31 m k z z z z z z z (by decide) z (by exact (List.forall_mem_nil _)) fun Ap Bl Br a k m e Bf=>?_)
 have Be:=ow_bx Bf ([]:List Int) z z z
 refine pN 1 k z fun a k=>nn (wp_seq (wr (sv k z (r_fa fa74_1 k z z) fun a k=>sv k z (r_ldb t172 m 1 Ao 1 k z z z z z) fun a k=>sv k z (r_len (α:=Spot) Ac k underlying72 z z) fun a k=>pN 1 k z fun a k=>nn (wp_block (c_loop (fun n a w=>∃ (Al:List Int) (Ai:Value) (Ad:List Nat) (Ag:World) (Aa:Int),K 34 [(1,I Ab),(5,Ai),(17,v8),(18,I ((x1.fSpots.length:Int))),(19,I Aa)] a ∧ St [] w0 w [(Ad,Ag)] ∧ ow Ag Ad [Ai] Al ∧ d_impl_OnPallet_L1 fu x1 Ab n Al Aa = some r) ?_ ?_ fu _ _ ?_)))))
 · rintro a w ⟨_,_,_,_,_,_,_,_,h⟩
   exact nS h
 · rintro Bd a Bp ⟨Al,Ai,Ad,Ag,Aa,k,m,Am,h⟩
   rw [d_impl_OnPallet_L1_s] at h
   unfold d_impl_OnPallet_L1_B at h
   refine wr (pN 1 k z fun a k=>nn (wp_seq (cI h k z (fun Ay h=>?_) fun Ay h=>?_)))
   · refine wp_skip (nm_then ?_)
     refine c_cut (fun a w=>∃ (Aj:List Int) (Ae:Value) (Ah:List Nat) (Ak:World),K 34 [(1,I Ab),(5,Ae),(17,v8),(18,I ((x1.fSpots.length:Int))),(19,I Aa)] a ∧ St [] w0 w [(Ah,Ak)] ∧ ow Ak Ah [Ae] Aj ∧ d_impl_OnPallet_J1 fu (d_impl_OnPallet_L1 fu x1 Ab Bd) Aa Aj = some r) ?_ ?_
     · rintro a Bq ⟨Aj,Ae,Ah,Ak,k,m,Az,h⟩
       unfold d_impl_OnPallet_J1 at h
       refine wp_region_lit (pN 2 k z fun a k=>nn ?_)
       exact ⟨Aj,Ae,Ah,Ak,w64 (Aa + 1),k.keep [1,5,17,18,19] z,m.sel [0] z (by decide),Az,h⟩
     refine wp_block (wr (pN 1 k z fun a k=>oE h fun Af Ar h=>sv k z (r_ixa Ac Ar k ts72 z z z) fun a k=>sv k z (r_lde Ac (m.a00 (Enc.rd_lt Ac)) Ar ta139 k z z) fun a k=>s_alloc (cs:=[I 0,I 0,I 0,I 0]) m k zeroValue139 z z z z z fun Bs Bt a k m e As=>pN 1 k z fun a k=>s_stb (cs':=[I Af.fPallet,I Af.fX,I Af.fY,I Af.fZ]) sizeOf139 m 0 As 0 k z z z z z z z z z z z fun Bn a k e m Bg=>nn (wr (sv k z (r_fa fa139_0 k z z) fun a k=>sv k z (r_ldb t13 m 0 Bg 0 k z z z z z) fun a k=>pN 2 k z fun a k=>nn (cI h k z (fun Bk h=>?_) fun Bk h=>?_)))))
     · refine wp_region_lit (pN 2 k z fun a k=>s_bs (cs:=[I Aa]) (ps:=[(0,.tmp 29)]) te31 m k z z z z z z z (by decide) z (by exact (List.forall_mem_cons.2 ⟨z,(List.forall_mem_nil _)⟩)) fun Bo Bm Bu a k m e Bh=>?_)
       have Bb:=ow_bx Bh ([Aa]:List Int) z z z
       refine oE h fun Bj Av h=>s_appF Av te31 z m 2 Am (News.rd (Enc.rd_agr (Enc.ow_rd Bb) (m.a 0 z))) z z k z z z z z z z fun At Bc Bi a k e m Ba=>pN 1 k z fun a k=>wpList_nil (nm_block (nm_then ?_))
       exact ⟨Bj,At,Bc,Bi,k.keep [1,5,17,18,19] z,m.sel [2] z (by decide),Ba,h⟩
     refine wp_skip (nm_block (nm_then ?_))
     exact ⟨Al,Ai,Ad,Ag,k.keep [1,5,17,18,19] z,m.sel [1] z (by decide),Am,h⟩
   refine wp_exit (ex_then (ex_then (ex_same (nm_then ?_))))
   refine wr (pN 2 k z fun a k=>nn (wp_ret ?_))
   cases h
   exact finR1 k z (RV.tmp k z) ⟨_,Ad,z,m.ext,(Enc.ow_agr Am (m.a 0 z)),(m.fresh 0 z)⟩
 exact ⟨([]:List Int),(.slice (some ⟨Ap,0,none⟩) 0 0),[Ap],Bl,0,k.keep [1,5,17,18,19] z,m.sel [0] z (by decide),Be,h⟩
theorem c_impl_PalletGram (fu:Nat) {w0:World} (r1:Request) (x5:Plan) (Az:Int) {Au:List Value} {F3:List Nat} (Bc:rd w0 F3 Au r1) {Al:List Value} {F7:List Nat} (Bk:rd w0 F7 Al x5) {r:Int}
    (h:d_impl_PalletGram fu r1 x5 Az = some r) :
    Calls Tryz.prog 220 #[.agg Au.toArray,.agg Al.toArray,I Az] w0 fun e w=>e = .returned (I r) ∧ Ext [] w0 w:=by
 refine enter (vs:=[_,_,_]) func220 z ntmps220 z fun a k=>?_
 have m:=St.start w0
 obtain ⟨Ag,Br,Ao,Bz,Ak,Cb,rfl,rfl,Ax,Ah,Aw⟩:=Bc
 obtain ⟨Ap,Cc,Av,Ca,rfl,rfl,Ab,At⟩:=Bk
 unfold d_impl_PalletGram at h
 refine wr (s_box (cs:=[I r1.fWay,I r1.fPallet.fW,I r1.fPallet.fD,I r1.fPallet.fH,I r1.fPallet.fGram,I r1.fClasses,Ag,Ao,I r1.fMaster,Ak]) m k z z z z z z fun As Bh a k m e Bf=>s_box (cs:=[Ap,Av]) m k z z z z z z fun Aq Bq a k m e Aj=>pN 1 k z fun a k=>nn (wr (pN 1 k z fun a k=>nn (wp_seq (wr (sv k z (r_ldB ta74 m 0 Aj 0 k z z z z z z) fun a k=>pN 1 k z fun a k=>oE h fun Ar Bm h=>s_call k call219 z z z z z (c_impl_OnPallet fu _ _ (show rd _ _ [Ap,Av] (x5:Plan) from ⟨_,_,_,_,z,z,(Enc.rd_agr Ab (m.a00 (Enc.rd_lt Ab))),(Enc.rd_agr At (m.a00 (Enc.rd_lt At)))⟩) Bm) fun Bu Bd hR=>?_))))))
 obtain ⟨Bo,Ai,rfl,e,Aa,Bb⟩:=hR
 refine ⟨_,z,fun a k=>?_⟩
 have m:=m.new e Ai (fun b hb=>⟨Bb b hb,Enc.rd_lt (Enc.ow_rd Aa) b hb⟩) (Enc.ow_nd Aa)
 refine sv k z (r_len (α:=Int) (Enc.ow_rd Aa) k underlying31 z z) fun a k=>pN 1 k z fun a k=>nn (wp_block (c_loop (fun n a w=>∃ (Ad:Int) (Ac:Int),K 29 [(3,.pointer (some (⟨As,0,none⟩:Addr))),(4,.pointer (some (⟨Aq,0,none⟩:Addr))),(7,I Ad),(12,Bo),(13,I ((Ar.length:Int))),(14,I Ac)] a ∧ St [] w0 w [([As],Bh),([Aq],Bq),(Ai,Bd)] ∧ d_impl_PalletGram_L1 fu r1 x5 Ar n Ad Ac = some r) ?_ ?_ fu _ _ ?_))
 · rintro a w ⟨_,_,_,_,h⟩
   exact nS h
 · rintro Bs a Bt ⟨Ad,Ac,k,m,h⟩
   rw [d_impl_PalletGram_L1_s] at h
   unfold d_impl_PalletGram_L1_B at h
   refine wr (pN 1 k z fun a k=>nn (wp_seq (cI h k z (fun Bg h=>?_) fun Bg h=>?_)))
   · refine wp_skip (nm_then ?_)
     refine wp_seq (wp_block (wr (oE h fun By Am h=>sv k z (r_ixa (Enc.ow_rd Aa) Am k ts31 z z z) fun a k=>sv k z (r_lde1 (Enc.ow_rd Aa) (m.a 2 z) Am 0 t13 k z z z z) fun a k=>pN 1 k z fun a k=>nn (d_go [] mixo m z fun Be hMd=>?_))))
     have m:=hMd
     have s:=Ext.refl ([]:List Nat) Be
     refine dN [0,4] 2 z k (by kernel_rfl) z s (fun _ _ _ _ _=>id) fun a k=>dt k 1 z (by kernel_rfl) z s (fun _ _ _=>id) (fun w s=>r_ldA ta30 (Bf.at ((hMd.step s).a 0 z) 0 10 z z z) z k z z) fun a k=>dt k 2 z (by kernel_rfl) z s (fun _ _ _=>id) (fun w s=>r_fa fa74_0 k z z) fun a k=>dt k 3 z (by kernel_rfl) z s (fun _ _ _=>id) (fun w s=>r_ld1 t143 (r:=[]) (Aj.at ((hMd.step s).a 1 z) 0 1 z z z) k z z) fun a k=>oE h fun Ae Ay h=>dt k 5 z (by kernel_rfl) z s (fun _ _ _=>id) (fun w s=>r_ixa Ab Ay k ts43 z z z) fun a k=>?_
     obtain ⟨Bv,Bx,Cd,Bn,Bj,Bl⟩:=rd_get Ab (ix_some Ay).2.2
     obtain ⟨Bi,_,rfl,rfl,Af⟩:=Bn
     refine dt k 6 z (by kernel_rfl) z s (fun _ _ _=>id) (fun w s=>r_ldA ta33 (Bj.agr ((hMd.step s).a00 (Enc.rd_lt Ab)) Bl) z k z z) fun a k=>d_one 7 (by kernel_rfl) z (oE h fun Bp Ba h=>cE k m call228 z z z (c_impl_Gross fu _ _ (show rd _ _ [I r1.fWay,I r1.fPallet.fW,I r1.fPallet.fD,I r1.fPallet.fH,I r1.fPallet.fGram,I r1.fClasses,Ag,Ao,I r1.fMaster,Ak] (r1:Request) from ⟨_,_,_,_,_,_,z,z,(Enc.rd_agr Ax (m.a00 (Enc.rd_lt Ax))),(Enc.rd_agr Ah (m.a00 (Enc.rd_lt Ah))),(Enc.rd_agr Aw (m.a00 (Enc.rd_lt Aw)))⟩) (show rd _ _ [I Ae.fType,I Ae.fGroup,Bi] (Ae:Carton) from ⟨_,_,z,z,(Enc.rd_agr Af (m.a00 (Enc.rd_lt Af)))⟩) Ba) fun Bw e a k m=>?_)
     have s:=s.trans e (by simp)
     refine wpList_nil ⟨s,?_⟩
     refine dN [8,9] 2 z k (by kernel_rfl) z s (fun _ _ _ _ _=>id) fun a k=>d_done (by kernel_rfl) ((nm_block (nm_then ?_)))
     refine wp_region_lit (pN 2 k z fun a k=>nn ?_)
     exact ⟨w64 (Ad + Bp),w64 (Ac + 1),k.keep [3,4,7,12,13,14] z,m.sel [0,1,2] z (by decide),h⟩
   refine wp_exit (ex_then (ex_then (ex_same (nm_then ?_))))
   refine wr (pN 2 k z fun a k=>nn (wp_ret (fS h k m z z)))
 exact ⟨0,0,k.keep [3,4,7,12,13,14] z,m.sel [2,1,0] z (by decide),h⟩
theorem c_impl_spotFault_1 (fu:Nat) {w0:World} (i1:Int) (x2:Plan) (Ag:List Int) {v5:Value} {F6:List Nat} {v8:Value} {F9:List Nat} {b3:Nat} (Ab:bx w0 b3 [v5,v8] 74) (Aa:rd w0 F6 [v5] x2.fCartons) (Bc:rd w0 F9 [v8] x2.fSpots) {Ae:Value} {Ao:List Nat} {Ai:Nat} (Ad:bx w0 Ai [Ae] 31) (Ac:rd w0 Ao [Ae] Ag) {r:Bool}
    (h:d_impl_spotFault_1 fu i1 x2 Ag = some r) :
    Calls Tryz.prog 221 #[I i1,.pointer (some (⟨b3,0,none⟩:Addr)),.pointer (some (⟨Ai,0,none⟩:Addr))] w0 fun e w=>e = .returned (.bool (r)) ∧ Ext [] w0 w:=by
 refine enter (vs:=[_,_,_]) func221 z ntmps221 z fun a k=>?_
 have m:=St.start w0
 unfold d_impl_spotFault_1 at h
 refine wr (pN 1 k z fun a k=>nn (wp_seq (d_go [] mixo m z fun As hMd=>?_)))
 have m:=hMd
 have s:=Ext.refl ([]:List Nat) As
 refine dN [2] 1 z k (by kernel_rfl) z s (fun _ _ _ _ _=>id) fun a k=>dt k 0 z (by kernel_rfl) z s (fun _ _ _=>id) (fun w s=>r_fa fa74_0 k z z) fun a k=>dt k 1 z (by kernel_rfl) z s (fun _ _ _=>id) (fun w s=>r_ld1 t143 (r:=[]) (Ab.at ((hMd.step s).a00 Ab.lt1) 0 1 z z z) k z z) fun a k=>oE h fun Au Af h=>dt k 3 z (by kernel_rfl) z s (fun _ _ _=>id) (fun w s=>r_ixa Aa Af k ts43 z z z) fun a k=>dt k 4 z (by kernel_rfl) z s (fun _ _ _=>id) (fun w s=>r_fa fa33_1 k z z) fun a k=>?_
 obtain ⟨Aw,Av,Bd,Ar,Ak,Am⟩:=rd_get Aa (ix_some Af).2.2
 obtain ⟨Az,_,rfl,rfl,Bf⟩:=Ar
 refine dt k 5 z (by kernel_rfl) z s (fun _ _ _=>id) (fun w s=>r_ld1 t13 ((Ak.agr ((hMd.step s).a00 (Enc.rd_lt Aa)) Am).fld 1 1 (Nat.le_of_ble_eq_true z)) k z z) fun a k=>dt k 6 z (by kernel_rfl) z s (fun _ _ _=>id) (fun w s=>r_fa fa74_0 k z z) fun a k=>dt k 7 z (by kernel_rfl) z s (fun _ _ _=>id) (fun w s=>r_ld1 t143 (r:=[]) (Ab.at ((hMd.step s).a00 Ab.lt1) 0 1 z z z) k z z) fun a k=>dt k 8 z (by kernel_rfl) z s (fun _ _ _=>id) (fun w s=>r_ld1 t131 (r:=[]) (Ad.at ((hMd.step s).a00 Ad.lt1) 0 1 z z z) k z z) fun a k=>oE h fun Bg Aj h=>dt k 9 z (by kernel_rfl) z s (fun _ _ _=>id) (fun w s=>r_ixa Ac Aj k ts31 z z z) fun a k=>?_
 refine dt k 10 z (by kernel_rfl) z s (fun _ _ _=>id) (fun w s=>r_lde1 Ac ((hMd.step s).a00 (Enc.rd_lt Ac)) Aj 0 t13 k z z z z) fun a k=>oE h fun Ay Ah h=>dt k 11 z (by kernel_rfl) z s (fun _ _ _=>id) (fun w s=>r_ixa Aa Ah k ts43 z z z) fun a k=>dt k 12 z (by kernel_rfl) z s (fun _ _ _=>id) (fun w s=>r_fa fa33_1 k z z) fun a k=>?_
 obtain ⟨Bb,Ba,Ax,Al,Ap,Aq⟩:=rd_get Aa (ix_some Ah).2.2
 obtain ⟨Be,_,rfl,rfl,At⟩:=Al
 refine dt k 13 z (by kernel_rfl) z s (fun _ _ _=>id) (fun w s=>r_ld1 t13 ((Ap.agr ((hMd.step s).a00 (Enc.rd_lt Aa)) Aq).fld 1 1 (Nat.le_of_ble_eq_true z)) k z z) fun a k=>dN [14,15] 2 z k (by kernel_rfl) z s (fun _ _ _ _ _=>id) fun a k=>d_done (by kernel_rfl) ((nm_then ?_))
 refine wp_ret (fS h k m z z)
theorem c_impl_spotFault (fu:Nat) {w0:World} (r1:Request) (x5:Plan) {Br:List Value} {F3:List Nat} (Cs:rd w0 F3 Br r1) {Bi:List Value} {F7:List Nat} (Cz:rd w0 F7 Bi x5) {r:Int}
    (h:d_impl_spotFault fu r1 x5 = some r) :
    Calls Tryz.prog 129 #[.agg Br.toArray,.agg Bi.toArray] w0 fun e w=>e = .returned (I r) ∧ Ext [] w0 w:=by
 refine enter (vs:=[_,_]) func129 z ntmps129 z fun a k=>?_
 have m:=St.start w0
 obtain ⟨v9,Ea,Be,Dv,Bc,Fb,rfl,rfl,Ay,Az,Au⟩:=Cs
 obtain ⟨Aw,Dz,Bb,Dw,rfl,rfl,Ae,Aa⟩:=Cz
 unfold d_impl_spotFault at h
 refine wr (s_box (cs:=[I r1.fWay,I r1.fPallet.fW,I r1.fPallet.fD,I r1.fPallet.fH,I r1.fPallet.fGram,I r1.fClasses,v9,Be,I r1.fMaster,Bc]) m k z z z z z z fun Ac Al a k m e Ax=>s_box (cs:=[Aw,Bb]) m k z z z z z z fun Ab Ao a k m e Ai=>pN 1 k z fun a k=>nn (wr (s_bs (cs:=[]) (ps:=[]) te149 m k z z z z z z z (by decide) z (by exact (List.forall_mem_nil _)) fun Bq Bz Ei a k m e Co=>?_)))
 have Cy:=ow_bx Co ([]:List Box) z z z
 refine pN 1 k z fun a k=>nn (wp_seq (wr (sv k z (r_fa fa74_0 k z z) fun a k=>sv k z (r_ldb t143 m 1 Ai 0 k z z z z z) fun a k=>sv k z (r_len (α:=Carton) Ae k underlying43 z z) fun a k=>pN 1 k z fun a k=>nn (wp_block (c_loop (fun n a w=>∃ (Ag:List Box) (Ap:Value) (Ar:List Nat) (Aq:World) (Ba:Int),K 96 [(2,.pointer (some (⟨Ac,0,none⟩:Addr))),(3,.pointer (some (⟨Ab,0,none⟩:Addr))),(5,Ap),(15,Aw),(16,I ((x5.fCartons.length:Int))),(17,I Ba)] a ∧ St [] w0 w [([Ac],Al),([Ab],Ao),(Ar,Aq)] ∧ ow Aq Ar [Ap] Ag ∧ d_impl_spotFault_L4 fu r1 x5 n Ag Ba = some r) ?_ ?_ fu _ _ ?_)))))
 · rintro a w ⟨_,_,_,_,_,_,_,_,h⟩
   exact nS h
 · rintro Eu a Ep ⟨Ag,Ap,Ar,Aq,Ba,k,m,Am,h⟩
   rw [d_impl_spotFault_L4_s] at h
   unfold d_impl_spotFault_L4_B at h
   refine wr (pN 1 k z fun a k=>nn (wp_seq (cI h k z (fun Cv h=>?_) fun Cv h=>?_)))
   · refine wp_skip (nm_then ?_)
     refine wp_seq (wp_block (wr (pN 1 k z fun a k=>oE h fun As Bh h=>sv k z (r_ixa Ae Bh k ts43 z z z) fun a k=>?_)))
     obtain ⟨Dt,Du,Ff,Cn,Cg,Cf⟩:=rd_get Ae (ix_some Bh).2.2
     obtain ⟨Bp,_,rfl,rfl,Bg⟩:=Cn
     refine sv k z (r_ldA ta33 (Cg.agr (m.a00 (Enc.rd_lt Ae)) Cf) z k z z) fun a k=>s_alloc (cs:=[I 0,I 0,.slice none 0 0]) m k zeroValue33 z z z z z fun Ef Fe a k m e Ck=>pN 1 k z fun a k=>s_stb (cs':=[I As.fType,I As.fGroup,Bp]) sizeOf33 m 0 Ck 0 k z z z z z z z z z z (allc z (allc z (allc (rd_o Bg) alln))) fun Fa a k e m Bv=>nn (wr (sv k z (r_ldB ta30 m 1 Ax 0 k z z z z z z) fun a k=>sv k z (r_ldB ta33 m 0 Bv 0 k z z z z z z) fun a k=>oE h fun Ad Ce h=>?_))
     refine cE k m call152 z z z (c_impl_BoxOf fu _ _ (show rd _ _ [I r1.fWay,I r1.fPallet.fW,I r1.fPallet.fD,I r1.fPallet.fH,I r1.fPallet.fGram,I r1.fClasses,v9,Be,I r1.fMaster,Bc] (r1:Request) from ⟨_,_,_,_,_,_,z,z,(Enc.rd_agr Ay (m.a00 (Enc.rd_lt Ay))),(Enc.rd_agr Az (m.a00 (Enc.rd_lt Az))),(Enc.rd_agr Au (m.a00 (Enc.rd_lt Au)))⟩) (show rd _ _ [I As.fType,I As.fGroup,Bp] (As:Carton) from ⟨_,_,z,z,(Enc.rd_agr Bg (m.a00 (Enc.rd_lt Bg)))⟩) Ce) fun Fc e a k m=>s_alloc (cs:=[I 0,I 0,I 0,I 0]) m k zeroValue140 z z z z z fun Ew Fg a k m e Cq=>?_
     refine s_stb (cs':=[I Ad.fW,I Ad.fD,I Ad.fH,I Ad.fGram]) sizeOf140 m 0 Cq 0 k z z z z z z z z z z z fun Et a k e m Bk=>nn (wp_seq (wp_seq (d_go [] mixo m z fun Ct hMd=>?_)))
     have m:=hMd
     have s:=Ext.refl ([]:List Nat) Ct
     refine dN [5] 1 z k (by kernel_rfl) z s (fun _ _ _ _ _=>id) fun a k=>dt k 0 z (by kernel_rfl) z s (fun _ _ _=>id) (fun w s=>r_fa fa30_1 k z z) fun a k=>dt k 1 z (by kernel_rfl) z s (fun _ _ _=>id) (fun w s=>r_ldA ta25 (Ax.at ((hMd.step s).a 2 z) 1 4 z z z) z k z z) fun a k=>dt k 2 z (by kernel_rfl) z s (fun _ _ _=>id) (fun w s=>r_ldA ta140 (Bk.at ((hMd.step s).a 0 z) 0 4 z z z) z k z z) fun a k=>dt k 3 z (by kernel_rfl) z s (fun _ _ _=>id) (fun w s=>r_fa fa74_1 k z z) fun a k=>dt k 4 z (by kernel_rfl) z s (fun _ _ _=>id) (fun w s=>r_ld1 t172 (r:=[]) (Ai.at ((hMd.step s).a 3 z) 1 1 z z z) k z z) fun a k=>oE h fun Dp Bs h=>?_
     refine dt k 6 z (by kernel_rfl) z s (fun _ _ _=>id) (fun w s=>r_ixa Aa Bs k ts72 z z z) fun a k=>dt k 7 z (by kernel_rfl) z s (fun _ _ _=>id) (fun w s=>r_lde Aa ((hMd.step s).a00 (Enc.rd_lt Aa)) Bs ta139 k z z) fun a k=>d_one 8 (by kernel_rfl) z (oE h fun El Da h=>cE k m call218 z z z (c_impl_Within fu (r1.fPallet:Pallet) (Ad:Box) (Dp:Spot)  Da) fun Eb e a k m=>?_)
     have s:=s.trans e (by simp)
     refine wpList_nil ⟨s,?_⟩
     refine dN [9] 1 z k (by kernel_rfl) z s (fun _ _ _ _ _=>id) fun a k=>d_done (by kernel_rfl) ((nm_then ?_))
     refine cI h k z (fun Cu h=>?_) fun Cu h=>?_
     · refine wr (pN 1 k z fun a k=>nn (wp_ret (rt_then (rt_block (rt_then (rt_then (rt_block (rt_then ?_))))))))
       refine fS h k m z z
     refine wp_skip (nm_then ?_)
     refine wp_region_lit (pN 1 k z fun a k=>sv k z (r_ldB ta140 m 0 Bk 0 k z z z z z z) fun a k=>s_bs (cs:=[I Ad.fW,I Ad.fD,I Ad.fH,I Ad.fGram]) (ps:=[(0,.tmp 36)]) te149 m k z z z z z z z (by decide) z (by exact (List.forall_mem_cons.2 ⟨z,(List.forall_mem_nil _)⟩)) fun Eg Es Ek a k m e Ch=>?_)
     have Db:=ow_bx Ch ([Ad]:List Box) z z z
     refine oE h fun Cl Dq h=>s_appF Dq te149 z m 5 Am (News.rd (Enc.rd_agr (Enc.ow_rd Db) (m.a 0 z))) z z k z z z z z z z fun Cr Dh Dk a k e m Bw=>pN 1 k z fun a k=>?_
     have k:=k.keep [2,3,15,16,5,17] z
     refine wpList_nil (nm_block (nm_then ?_))
     refine wp_region_lit (pN 2 k z fun a k=>nn ?_)
     exact ⟨Cl,Cr,Dh,Dk,w64 (Ba + 1),k.keep [2,3,5,15,16,17] z,m.sel [3,4,5] z (by decide),Bw,h⟩
   refine wp_exit (ex_then (ex_then (ex_same (nm_then ?_))))
   refine wp_seq (wr (pN 1 k z fun a k=>sv k z (r_len (α:=Box) (Enc.ow_rd Am) k underlying149 z z) fun a k=>pN 1 k z fun a k=>nn (wp_block (c_loop (fun n a w=>∃ (Af:Int),K 96 [(2,.pointer (some (⟨Ac,0,none⟩:Addr))),(3,.pointer (some (⟨Ab,0,none⟩:Addr))),(5,Ap),(41,I ((Ag.length:Int))),(42,I Af)] a ∧ St [] w0 w [([Ac],Al),([Ab],Ao),(Ar,Aq)] ∧ d_impl_spotFault_L3 fu r1 x5 Ag n Af = some r) ?_ ?_ fu _ _ ?_))))
   · rintro a w ⟨_,_,_,h⟩
     exact nS h
   · rintro Cd a Eh ⟨Af,k,m,h⟩
     rw [d_impl_spotFault_L3_s] at h
     unfold d_impl_spotFault_L3_B at h
     refine wr (pN 1 k z fun a k=>nn (wp_seq (cI h k z (fun Dg h=>?_) fun Dg h=>?_)))
     · refine wp_skip (nm_then ?_)
       refine wp_seq (wp_block (wr (pN 2 k z fun a k=>nn (wr (pN 2 k z fun a k=>nn (wp_block (c_loop (fun n a w=>∃ (Av:Int),K 96 [(2,.pointer (some (⟨Ac,0,none⟩:Addr))),(3,.pointer (some (⟨Ab,0,none⟩:Addr))),(5,Ap),(9,I Af),(41,I ((Ag.length:Int))),(42,I Af),(45,I Af),(46,I Av)] a ∧ St [] w0 w [([Ac],Al),([Ab],Ao),(Ar,Aq)] ∧ d_impl_spotFault_L1 fu (d_impl_spotFault_L3 fu r1 x5 Ag Cd) x5 Ag Af n Av = some r) ?_ ?_ fu _ _ ?_)))))))
       · rintro a w ⟨_,_,_,h⟩
         exact nS h
       · rintro Dy a Ej ⟨Av,k,m,h⟩
         rw [d_impl_spotFault_L1_s] at h
         unfold d_impl_spotFault_L1_B at h
         refine wr (pN 1 k z fun a k=>nn (wp_seq (cI h k z (fun Dm h=>?_) fun Dm h=>?_)))
         · refine wp_skip (nm_then ?_)
           refine wp_seq (wp_block (wr (pN 2 k z fun a k=>nn (wp_seq (d_go [] mixo m z fun Ca hMd=>?_)))))
           have m:=hMd
           have s:=Ext.refl ([]:List Nat) Ca
           refine dN [0,1,6,9,10,15] 6 z k (by kernel_rfl) z s (fun _ _ _ _ _=>id) fun a k=>oE h fun Dr Bn h=>dt k 2 z (by kernel_rfl) z s (fun _ _ _=>id) (fun w s=>r_ixa (Enc.ow_rd Am) Bn k ts149 z z z) fun a k=>dt k 3 z (by kernel_rfl) z s (fun _ _ _=>id) (fun w s=>r_lde (Enc.ow_rd Am) ((hMd.step s).a 2 z) Bn ta140 k z z) fun a k=>dt k 4 z (by kernel_rfl) z s (fun _ _ _=>id) (fun w s=>r_fa fa74_1 k z z) fun a k=>dt k 5 z (by kernel_rfl) z s (fun _ _ _=>id) (fun w s=>r_ld1 t172 (r:=[]) (Ai.at ((hMd.step s).a 1 z) 1 1 z z z) k z z) fun a k=>oE h fun Cb Bl h=>dt k 7 z (by kernel_rfl) z s (fun _ _ _=>id) (fun w s=>r_ixa Aa Bl k ts72 z z z) fun a k=>?_
           refine dt k 8 z (by kernel_rfl) z s (fun _ _ _=>id) (fun w s=>r_lde Aa ((hMd.step s).a00 (Enc.rd_lt Aa)) Bl ta139 k z z) fun a k=>oE h fun Dc Bm h=>dt k 11 z (by kernel_rfl) z s (fun _ _ _=>id) (fun w s=>r_ixa (Enc.ow_rd Am) Bm k ts149 z z z) fun a k=>dt k 12 z (by kernel_rfl) z s (fun _ _ _=>id) (fun w s=>r_lde (Enc.ow_rd Am) ((hMd.step s).a 2 z) Bm ta140 k z z) fun a k=>dt k 13 z (by kernel_rfl) z s (fun _ _ _=>id) (fun w s=>r_fa fa74_1 k z z) fun a k=>dt k 14 z (by kernel_rfl) z s (fun _ _ _=>id) (fun w s=>r_ld1 t172 (r:=[]) (Ai.at ((hMd.step s).a 1 z) 1 1 z z z) k z z) fun a k=>oE h fun Dd Bu h=>dt k 16 z (by kernel_rfl) z s (fun _ _ _=>id) (fun w s=>r_ixa Aa Bu k ts72 z z z) fun a k=>?_
           refine dt k 17 z (by kernel_rfl) z s (fun _ _ _=>id) (fun w s=>r_lde Aa ((hMd.step s).a00 (Enc.rd_lt Aa)) Bu ta139 k z z) fun a k=>d_one 18 (by kernel_rfl) z (oE h fun Em Df h=>cE k m call153 z z z (c_impl_Overlap fu (Dr:Box) (Cb:Spot) (Dc:Box) (Dd:Spot)  Df) fun En e a k m=>?_)
           have s:=s.trans e (by simp)
           refine wpList_nil ⟨s,?_⟩
           refine d_done (by kernel_rfl) ((nm_then ?_))
           refine cI h k z (fun Do h=>?_) fun Do h=>?_
           · refine wr (pN 1 k z fun a k=>nn (wp_ret (rt_block (rt_then (rt_then (rt_block (rt_block (rt_then (rt_then (rt_block (rt_then ?_)))))))))))
             refine fS h k m z z
           refine wp_skip (nm_block (nm_then ?_))
           refine wp_region_lit (pN 2 k z fun a k=>nn ?_)
           exact ⟨w64 (Av + 1),k.keep [2,3,5,9,41,42,45,46] z,m.sel [0,1,2] z (by decide),h⟩
         refine wp_exit (ex_then (ex_then (ex_same (nm_block (nm_then ?_)))))
         refine wp_region_lit (pN 2 k z fun a k=>nn ?_)
         exact ⟨w64 (Af + 1),k.keep [2,3,5,41,42] z,m.sel [0,1,2] z (by decide),h⟩
       exact ⟨0,k.keep [2,3,5,9,41,42,45,46] z,m.sel [0,1,2] z (by decide),h⟩
     refine wp_exit (ex_then (ex_then (ex_same (nm_then ?_))))
     refine wp_seq (wr (sv k z (r_fa fa74_1 k z z) fun a k=>sv k z (r_ldb t172 m 1 Ai 1 k z z z z z) fun a k=>oE h fun Ak Cp h=>cE k m call147 z z z (c_impl_Pallets fu _ (Enc.rd_agr Aa (m.a00 (Enc.rd_lt Aa))) Cp) fun Eo e a k m=>pN 1 k z fun a k=>nn (wp_block (c_loop (fun n a w=>∃ (Ah:Int),K 96 [(2,.pointer (some (⟨Ac,0,none⟩:Addr))),(3,.pointer (some (⟨Ab,0,none⟩:Addr))),(72,I Ak),(73,I Ah)] a ∧ St [] w0 w [([Ac],Al),([Ab],Ao)] ∧ d_impl_spotFault_L2 fu r1 x5 Ak n Ah = some r) ?_ ?_ fu _ _ ?_))))
     · rintro a w ⟨_,_,_,h⟩
       exact nS h
     · rintro Bo a Ez ⟨Ah,k,m,h⟩
       rw [d_impl_spotFault_L2_s] at h
       unfold d_impl_spotFault_L2_B at h
       refine wr (pN 1 k z fun a k=>nn (wp_seq (cI h k z (fun De h=>?_) fun De h=>?_)))
       · refine wp_skip (nm_then ?_)
         refine c_cut (fun a w=>K 96 [(2,.pointer (some (⟨Ac,0,none⟩:Addr))),(3,.pointer (some (⟨Ab,0,none⟩:Addr))),(72,I Ak),(73,I Ah)] a ∧ St [] w0 w [([Ac],Al),([Ab],Ao)] ∧ d_impl_spotFault_J1 fu (d_impl_spotFault_L2 fu r1 x5 Ak Bo) Ah = some r) ?_ ?_
         · rintro a Ev ⟨k,m,h⟩
           unfold d_impl_spotFault_J1 at h
           refine wp_region_lit (pN 2 k z fun a k=>nn ?_)
           exact ⟨w64 (Ah + 1),k.keep [2,3,72,73] z,m.sel [0,1] z (by decide),h⟩
         refine wp_block (wr (pN 2 k z fun a k=>nn (wr (sv k z (r_ldB ta74 m 1 Ai 0 k z z z z z z) fun a k=>pN 1 k z fun a k=>oE h fun Bt Cx h=>s_call k call219 z z z z z (c_impl_OnPallet fu _ _ (show rd _ _ [Aw,Bb] (x5:Plan) from ⟨_,_,_,_,z,z,(Enc.rd_agr Ae (m.a00 (Enc.rd_lt Ae))),(Enc.rd_agr Aa (m.a00 (Enc.rd_lt Aa)))⟩) Cx) fun Fd Ci hR=>?_))))
         obtain ⟨Dj,Bj,rfl,e,Aj,By⟩:=hR
         refine ⟨_,z,fun a k=>?_⟩
         have m:=m.new e Bj (fun b hb=>⟨By b hb,Enc.rd_lt (Enc.ow_rd Aj) b hb⟩) (Enc.ow_nd Aj)
         refine s_alloc (cs:=[.slice none 0 0]) m k zeroValue31 z z z z z fun Bf Ed a k m e Di=>s_stb1 (cs':=[Dj]) sizeOf31 m 0 Di 0 k (rd_c (Enc.ow_rd Aj)) (rd_o (Enc.ow_rd Aj)) z z z z z z z z z fun Cc a k e m Bd=>nn (c_cut (fun a w=>K 96 [(2,.pointer (some (⟨Ac,0,none⟩:Addr))),(3,.pointer (some (⟨Ab,0,none⟩:Addr))),(12,.pointer (some (⟨Bf,0,none⟩:Addr))),(72,I Ak),(73,I Ah)] a ∧ St [] w0 w [([Ac],Al),([Ab],Ao),([Bf],Cc),(Bj,Ci)] ∧ d_impl_spotFault_J2 fu (d_impl_spotFault_L2 fu r1 x5 Ak Bo) x5 Ah Bt = some r) ?_ ?_)
         · rintro a Ee ⟨k,m,h⟩
           unfold d_impl_spotFault_J2 at h
           refine wr (sv k z (r_ldb t131 m 2 Bd 0 k z z z z z) fun a k=>pN 1 k z fun a k=>oE h fun Dx Cm h=>cE k m call182 z z z (c_slices_ContainsFunc_int_int fu _ _ (Enc.rd_agr (Enc.ow_rd Aj) (m.a 3 z)) ⟨221,[.pointer (some (⟨Ab,0,none⟩:Addr)),.pointer (some (⟨Bf,0,none⟩:Addr))],z,call221,fun w Ey Ex r e Dl hx=>by subst Dl; have m:=m.step e; exact c_impl_spotFault_1 fu _ _ _ (Ai.agr (m.a 1 rfl) (by simp)) (Enc.rd_agr Ae (m.a00 (Enc.rd_lt Ae))) (Enc.rd_agr Aa (m.a00 (Enc.rd_lt Aa))) (Bd.agr (m.a 2 rfl) (by simp)) (Enc.rd_agr (Enc.ow_rd Aj) (m.a 3 rfl)) hx⟩ Cm) fun Er e a k m=>nn (cI h k rfl (fun Dn h=>?_) fun Dn h=>?_))
           · refine wr (pN 1 k z fun a k=>nn (wp_ret (rt_block (rt_then (rt_then (rt_block (rt_then ?_)))))))
             refine fS h k m z z
           refine wp_skip (nm_block (nm_then ?_))
           exact ⟨k.keep [2,3,72,73] z,m.sel [0,1] z (by decide),h⟩
         refine wp_seq (d_go [] mixo m z fun Cw hMd=>?_)
         have m:=hMd
         have s:=Ext.refl ([]:List Nat) Cw
         refine dt k 0 z (by kernel_rfl) z s (fun _ _ _=>id) (fun w s=>r_ld1 t131 (r:=[]) (Bd.at ((hMd.step s).a 0 z) 0 1 z z z) k z z) fun a k=>dt k 1 z (by kernel_rfl) z s (fun _ _ _=>id) (fun w s=>r_len (α:=Int) (Enc.ow_rd Aj) k underlying31 z z) fun a k=>dN [2,3] 2 z k (by kernel_rfl) z s (fun _ _ _ _ _=>id) fun a k=>bsplit (((Bt.length:Int)) == 0) (fun At=>?_) (fun At=>?_)
         · have h:=bif_t At h
           refine rB k 82 z At fun k=>dN [4,5,6,7,8,9,10,11,12] 9 z k (by kernel_rfl) z s (fun _ _ _ _ _=>id) fun a k=>d_done (by kernel_rfl) ((nm_then ?_))
           refine wp_cond_true (k.ev z) (wr (pN 1 k z fun a k=>nn (wp_ret (rt_then (rt_block (rt_then (rt_then (rt_block (rt_then ?_)))))))))
           refine fS h k m z z
         have h:=bif_f At h
         refine rB k 82 z At fun k=>dN [6] 1 z k (by kernel_rfl) z s (fun _ _ _ _ _=>id) fun a k=>dt k 4 z (by kernel_rfl) z s (fun _ _ _=>id) (fun w s=>r_ldA ta30 (Ax.at ((hMd.step s).a 2 z) 0 10 z z z) z k z z) fun a k=>dt k 5 z (by kernel_rfl) z s (fun _ _ _=>id) (fun w s=>r_ldA ta74 (Ai.at ((hMd.step s).a 3 z) 0 2 z z z) z k z z) fun a k=>dt k 8 z (by kernel_rfl) z s (fun _ _ _=>id) (fun w s=>r_fa fa30_1 k z z) fun a k=>dt k 9 z (by kernel_rfl) z s (fun _ _ _=>id) (fun w s=>r_fa fa25_3 k z z) fun a k=>dt k 10 z (by kernel_rfl) z s (fun _ _ _=>id) (fun w s=>r_ld1 t13 (r:=[]) (Ax.at ((hMd.step s).a 2 z) 4 1 z z z) k z z) fun a k=>d_one 7 (by kernel_rfl) z (oE h fun Ec Cj h=>?_)
         refine cE k m call220 z z z (c_impl_PalletGram fu _ _ _ (show rd _ _ [I r1.fWay,I r1.fPallet.fW,I r1.fPallet.fD,I r1.fPallet.fH,I r1.fPallet.fGram,I r1.fClasses,v9,Be,I r1.fMaster,Bc] (r1:Request) from ⟨_,_,_,_,_,_,z,z,(Enc.rd_agr Ay (m.a00 (Enc.rd_lt Ay))),(Enc.rd_agr Az (m.a00 (Enc.rd_lt Az))),(Enc.rd_agr Au (m.a00 (Enc.rd_lt Au)))⟩) (show rd _ _ [Aw,Bb] (x5:Plan) from ⟨_,_,_,_,z,z,(Enc.rd_agr Ae (m.a00 (Enc.rd_lt Ae))),(Enc.rd_agr Aa (m.a00 (Enc.rd_lt Aa)))⟩) Cj) fun Ds e a k m=>?_
         have s:=s.trans e (by simp)
         refine wpList_nil ⟨s,?_⟩
         refine dN [11,12] 2 z k (by kernel_rfl) z s (fun _ _ _ _ _=>id) fun a k=>d_done (by kernel_rfl) ((nm_then ?_))
         refine cI h k z (fun Bx h=>?_) fun Bx h=>?_
         · refine wr (pN 1 k z fun a k=>nn (wp_ret (rt_then (rt_block (rt_then (rt_then (rt_block (rt_then ?_))))))))
           refine fS h k m z z
         refine wp_skip (nm_then ?_)
         exact ⟨k.keep [2,3,12,72,73] z,m.sel [2,3,0,1] z (by decide),h⟩
       refine wp_exit (ex_then (ex_then (ex_same (nm_then ?_))))
       refine wr (pN 1 k z fun a k=>nn (wp_ret (fS h k m z z)))
     exact ⟨0,k.keep [2,3,72,73] z,m.sel [0,1] z (by decide),h⟩
   exact ⟨0,k.keep [2,3,5,41,42] z,m.sel [0,1,2] z (by decide),h⟩
 exact ⟨([]:List Box),(.slice (some ⟨Bq,0,none⟩) 0 0),[Bq],Bz,0,k.keep [2,3,5,15,16,17] z,m.sel [2,1,0] z (by decide),Cy,h⟩
theorem c_impl_Check (fu:Nat) {w0:World} (r1:Request) (x5:Plan) {Av:List Value} {F3:List Nat} (Bq:rd w0 F3 Av r1) {At:List Value} {F7:List Nat} (Br:rd w0 F7 At x5) {r:Int}
    (h:d_impl_Check fu r1 x5 = some r) :
    Calls Tryz.prog 41 #[.agg Av.toArray,.agg At.toArray] w0 fun e w=>e = .returned (I r) ∧ Ext [] w0 w:=by
 refine enter (vs:=[_,_]) func41 z ntmps41 z fun a k=>?_
 have m:=St.start w0
 obtain ⟨v9,Cg,Ai,Cb,Ah,Cw,rfl,rfl,Ad,Ae,Ac⟩:=Bq
 obtain ⟨Aj,Cf,Af,Ce,rfl,rfl,Aa,Ab⟩:=Br
 unfold d_impl_Check at h
 refine wr (s_box (cs:=[I r1.fWay,I r1.fPallet.fW,I r1.fPallet.fD,I r1.fPallet.fH,I r1.fPallet.fGram,I r1.fClasses,v9,Ai,I r1.fMaster,Ah]) m k z z z z z z fun As Bb a k m e Al=>s_box (cs:=[Aj,Af]) m k z z z z z z fun Au Bk a k m e Ak=>pN 1 k z fun a k=>nn (wp_seq (wr (sv k z (r_ldB ta30 m 1 Al 0 k z z z z z z) fun a k=>oE h fun Da Bg h=>?_))))
 refine cE k m call61 z z z (c_impl_sound fu _ (show rd _ _ [I r1.fWay,I r1.fPallet.fW,I r1.fPallet.fD,I r1.fPallet.fH,I r1.fPallet.fGram,I r1.fClasses,v9,Ai,I r1.fMaster,Ah] (r1:Request) from ⟨_,_,_,_,_,_,z,z,(Enc.rd_agr Ad (m.a00 (Enc.rd_lt Ad))),(Enc.rd_agr Ae (m.a00 (Enc.rd_lt Ae))),(Enc.rd_agr Ac (m.a00 (Enc.rd_lt Ac)))⟩) Bg) fun Cx e a k m=>pN 1 k z fun a k=>nn (cI h k z (fun Bv h=>?_) fun Bv h=>?_)
 · refine wr (pN 1 k z fun a k=>nn (wp_ret (rt_then ?_)))
   refine fS h k m z z
 refine wp_skip (nm_then ?_)
 refine c_cut (fun a w=>K 38 [(2,.pointer (some (⟨As,0,none⟩:Addr))),(3,.pointer (some (⟨Au,0,none⟩:Addr)))] a ∧ St [] w0 w [([As],Bb),([Au],Bk)] ∧ d_impl_Check_J1 fu r1 x5 = some r) ?_ ?_
 · rintro a Cp ⟨k,m,h⟩
   unfold d_impl_Check_J1 at h
   refine wr (sv k z (r_ldB ta74 m 1 Ak 0 k z z z z z z) fun a k=>oE h fun By Bf h=>s_call k call123 z z z z z (c_impl_allUnits fu _ (show rd _ _ [Aj,Af] (x5:Plan) from ⟨_,_,_,_,z,z,(Enc.rd_agr Aa (m.a00 (Enc.rd_lt Aa))),(Enc.rd_agr Ab (m.a00 (Enc.rd_lt Ab)))⟩) Bf) fun Cr Cc hR=>?_)
   obtain ⟨Cj,Ay,rfl,e,Aq,Bo⟩:=hR
   refine ⟨_,z,fun a k=>?_⟩
   have m:=m.new e Ay (fun b hb=>⟨Bo b hb,Enc.rd_lt (Enc.ow_rd Aq) b hb⟩) (Enc.ow_nd Aq)
   refine pN 1 k z fun a k=>nn (wr (pN 1 k z fun a k=>oE h fun Cl Bt h=>s_call k call124 z z z z z (c_slices_Sort_int_int fu _ (Enc.ow_agr Aq (m.a 0 z)) Bt) fun Cs Dd hR=>?_))
   obtain ⟨Cv,rfl,e,Bd,Ar⟩:=hR
   refine ⟨_,z,fun a k=>?_⟩
   have m:=m.mut 0 z e _ (fun b hb=>⟨Bd b hb,Enc.rd_lt (Enc.ow_rd Ar) b hb⟩) (Enc.ow_nd Ar)
   refine nn (wp_seq (wr (pN 1 k z fun a k=>sv k z (r_ldB ta30 m 1 Al 0 k z z z z z z) fun a k=>oE h fun Cm Bm h=>s_call k call127 z z z z z (c_impl_Units fu _ (show rd _ _ [I r1.fWay,I r1.fPallet.fW,I r1.fPallet.fD,I r1.fPallet.fH,I r1.fPallet.fGram,I r1.fClasses,v9,Ai,I r1.fMaster,Ah] (r1:Request) from ⟨_,_,_,_,_,_,z,z,(Enc.rd_agr Ad (m.a00 (Enc.rd_lt Ad))),(Enc.rd_agr Ae (m.a00 (Enc.rd_lt Ae))),(Enc.rd_agr Ac (m.a00 (Enc.rd_lt Ac)))⟩) Bm) fun Db Cy hR=>?_)))
   obtain ⟨Co,Bu,rfl,e,Ao,Bn⟩:=hR
   refine ⟨_,z,fun a k=>?_⟩
   have m:=m.new e Bu (fun b hb=>⟨Bn b hb,Enc.rd_lt (Enc.ow_rd Ao) b hb⟩) (Enc.ow_nd Ao)
   refine sv k z (r_len (α:=Int) (Enc.ow_rd Ao) k underlying31 z z) fun a k=>oE h fun Bw Az h=>s_call k call126 z z z z z (c_impl_places fu _  Az) fun Cd Ci hR=>?_
   obtain ⟨Cu,Bc,rfl,e,Am,Be⟩:=hR
   refine ⟨_,z,fun a k=>?_⟩
   have m:=m.new e Bc (fun b hb=>⟨Be b hb,Enc.rd_lt (Enc.ow_rd Am) b hb⟩) (Enc.ow_nd Am)
   refine oE h fun Bz Aw h=>cE k m call125 z z z (c_slices_Equal_int_int fu _ _ (Enc.rd_agr (Enc.ow_rd Ar) (m.a 2 z)) (Enc.rd_agr (Enc.ow_rd Am) (m.a 0 z)) Aw) fun De e a k m=>pN 1 k z fun a k=>nn (cI h k z (fun Bs h=>?_) fun Bs h=>?_)
   · refine wr (pN 1 k z fun a k=>nn (wp_ret (rt_then ?_)))
     refine fS h k m z z
   refine wp_skip (nm_then ?_)
   refine wp_seq (wr (sv k z (r_ldB ta30 m 3 Al 0 k z z z z z z) fun a k=>sv k z (r_ldB ta74 m 4 Ak 0 k z z z z z z) fun a k=>oE h fun Cn Bh h=>cE k m call128 z z z (c_impl_cartonFault fu _ _ (show rd _ _ [I r1.fWay,I r1.fPallet.fW,I r1.fPallet.fD,I r1.fPallet.fH,I r1.fPallet.fGram,I r1.fClasses,v9,Ai,I r1.fMaster,Ah] (r1:Request) from ⟨_,_,_,_,_,_,z,z,(Enc.rd_agr Ad (m.a00 (Enc.rd_lt Ad))),(Enc.rd_agr Ae (m.a00 (Enc.rd_lt Ae))),(Enc.rd_agr Ac (m.a00 (Enc.rd_lt Ac)))⟩) (show rd _ _ [Aj,Af] (x5:Plan) from ⟨_,_,_,_,z,z,(Enc.rd_agr Aa (m.a00 (Enc.rd_lt Aa))),(Enc.rd_agr Ab (m.a00 (Enc.rd_lt Ab)))⟩) Bh) fun Bx e a k m=>pN 1 k z fun a k=>nn (wr (pN 2 k z fun a k=>nn ?_))))
   refine cI h k z (fun Bl h=>?_) fun Bl h=>?_
   · refine wr (pN 2 k z fun a k=>nn (wp_ret (rt_then ?_)))
     refine fS h k m z z
   refine wp_skip (nm_then ?_)
   refine wr (sv k z (r_ldB ta30 m 3 Al 0 k z z z z z z) fun a k=>sv k z (r_ldB ta74 m 4 Ak 0 k z z z z z z) fun a k=>oE h fun Ch Bj h=>cE k m call129 z z z (c_impl_spotFault fu _ _ (show rd _ _ [I r1.fWay,I r1.fPallet.fW,I r1.fPallet.fD,I r1.fPallet.fH,I r1.fPallet.fGram,I r1.fClasses,v9,Ai,I r1.fMaster,Ah] (r1:Request) from ⟨_,_,_,_,_,_,z,z,(Enc.rd_agr Ad (m.a00 (Enc.rd_lt Ad))),(Enc.rd_agr Ae (m.a00 (Enc.rd_lt Ae))),(Enc.rd_agr Ac (m.a00 (Enc.rd_lt Ac)))⟩) (show rd _ _ [Aj,Af] (x5:Plan) from ⟨_,_,_,_,z,z,(Enc.rd_agr Aa (m.a00 (Enc.rd_lt Aa))),(Enc.rd_agr Ab (m.a00 (Enc.rd_lt Ab)))⟩) Bj) fun Dc e a k m=>pN 1 k z fun a k=>nn (wp_ret (fS h k m z z)))
 refine wr (sv k z (r_ldB ta74 m 0 Ak 0 k z z z z z z) fun a k=>oE h fun Ba Ax h=>cE k m call120 z z z (c_impl_PlanOk fu _ (show rd _ _ [Aj,Af] (x5:Plan) from ⟨_,_,_,_,z,z,(Enc.rd_agr Aa (m.a00 (Enc.rd_lt Aa))),(Enc.rd_agr Ab (m.a00 (Enc.rd_lt Ab)))⟩) Ax) fun Ca e a k m=>pN 2 k z fun a k=>bsplit (!Ba) (fun Ag=>?_) (fun Ag=>?_))
 · have h:=bif_t Ag h
   refine rB k 13 z Ag fun k=>pN 4 k z fun a k=>nn (wp_cond_true (k.ev z) (wr (pN 1 k z fun a k=>nn (wp_ret (rt_then ?_)))))
   refine fS h k m z z
 have h:=bif_f Ag h
 refine rB k 13 z Ag fun k=>sv k z (r_fa fa74_0 k z z) fun a k=>sv k z (r_ldb t143 m 0 Ak 0 k z z z z z) fun a k=>oE h fun Ct Bp h=>cE k m call121 z z z (c_slices_ContainsFunc_impl_Carton_impl_Carton fu _ _ (Enc.rd_agr Aa (m.a00 (Enc.rd_lt Aa))) ⟨122,[],z,call122,fun w Cq Ck r e Ap hx=>by obtain ⟨_,_,rfl,Ap⟩:=Ap; have m:=m.step e; exact c_impl_Check_1 fu _ Ap hx⟩ Bp) fun Cz e a k m=>pN 1 k z fun a k=>nn (cI h k z (fun Bi h=>?_) fun Bi h=>?_)
 · refine wr (pN 1 k z fun a k=>nn (wp_ret (rt_then ?_)))
   refine fS h k m z z
 refine wp_skip (nm_then ?_)
 exact ⟨k.keep [2,3] z,m.sel [1,0] z (by decide),h⟩
theorem c_impl_Feasible (fu:Nat) {w0:World} (r1:Request) (x5:Plan) {Af:List Value} {F3:List Nat} (Al:rd w0 F3 Af r1) {Ad:List Value} {F7:List Nat} (Am:rd w0 F7 Ad x5) {r:Bool}
    (h:d_impl_Feasible fu r1 x5 = some r) :
    Calls Tryz.prog 44 #[.agg Af.toArray,.agg Ad.toArray] w0 fun e w=>e = .returned (.bool (r)) ∧ Ext [] w0 w:=by
 refine enter (vs:=[_,_]) func44 z ntmps44 z fun a k=>?_
 have m:=St.start w0
 obtain ⟨v9,Az,Ag,Av,Ac,At,rfl,rfl,Ah,Ai,Ab⟩:=Al
 obtain ⟨Ae,Ay,Aa,Aw,rfl,rfl,Aj,Ak⟩:=Am
 unfold d_impl_Feasible at h
 refine wr (s_box (cs:=[I r1.fWay,I r1.fPallet.fW,I r1.fPallet.fD,I r1.fPallet.fH,I r1.fPallet.fGram,I r1.fClasses,v9,Ag,I r1.fMaster,Ac]) m k z z z z z z fun Ar As a k m e Ap=>s_box (cs:=[Ae,Aa]) m k z z z z z z fun Ba Bb a k m e Ao=>pN 1 k z fun a k=>nn (wr (sv k z (r_ldB ta30 m 1 Ap 0 k z z z z z z) fun a k=>sv k z (r_ldB ta74 m 0 Ao 0 k z z z z z z) fun a k=>oE h fun Ax Aq h=>?_)))
 refine cE k m call41 z z z (c_impl_Check fu _ _ (show rd _ _ [I r1.fWay,I r1.fPallet.fW,I r1.fPallet.fD,I r1.fPallet.fH,I r1.fPallet.fGram,I r1.fClasses,v9,Ag,I r1.fMaster,Ac] (r1:Request) from ⟨_,_,_,_,_,_,z,z,(Enc.rd_agr Ah (m.a00 (Enc.rd_lt Ah))),(Enc.rd_agr Ai (m.a00 (Enc.rd_lt Ai))),(Enc.rd_agr Ab (m.a00 (Enc.rd_lt Ab)))⟩) (show rd _ _ [Ae,Aa] (x5:Plan) from ⟨_,_,_,_,z,z,(Enc.rd_agr Aj (m.a00 (Enc.rd_lt Aj))),(Enc.rd_agr Ak (m.a00 (Enc.rd_lt Ak)))⟩) Aq) fun Au e a k m=>pN 2 k z fun a k=>nn (wp_ret (fS h k m z z))
theorem c_impl_turned (fu:Nat) {w0:World} (r1:Request) (x5:Plan) (f9:Box → Spot → Option Spot) {Bl:List Value} {F3:List Nat} (Cm:rd w0 F3 Bl r1) {Bd:List Value} {F7:List Nat} (Cr:rd w0 F7 Bd x5) {Bg:Value} (Cc:FnOk2 Tryz.prog w0 Bg f9) {r:Plan}
    (h:d_impl_turned fu r1 x5 f9 = some r) :
    Calls Tryz.prog 134 #[.agg Bl.toArray,.agg Bd.toArray,Bg] w0 fun e w=>∃ (Bs:List Value) (G0:List Nat),e = .returned (.agg Bs.toArray) ∧ Ext [] w0 w ∧ ow w G0 Bs r ∧ (∀ b ∈ G0,w0.heap.size ≤ b):=by
 refine enter (vs:=[_,_,_]) func134 z ntmps134 z fun a k=>?_
 have m:=St.start w0
 obtain ⟨Aw,Dl,Az,Dm,As,Da,rfl,rfl,Ah,Ak,Ap⟩:=Cm
 obtain ⟨Al,Dg,At,Dj,rfl,rfl,Aa,Ab⟩:=Cr
 obtain ⟨Cq,By,rfl,Co,Cs⟩:=Cc
 unfold d_impl_turned at h
 refine wr (s_box (cs:=[I r1.fWay,I r1.fPallet.fW,I r1.fPallet.fD,I r1.fPallet.fH,I r1.fPallet.fGram,I r1.fClasses,Aw,Az,I r1.fMaster,As]) m k z z z z z z fun Be Ct a k m e Bm=>s_box (cs:=[Al,At]) m k z z z z z z fun Bo Cg a k m e Ai=>s_alloc (cs:=[.slice none 0 0,.slice none 0 0]) m k zeroValue74 z z z z z fun Bu Cy a k m e Bp=>nn (wr (sv k z (r_ldB ta74 m 1 Ai 0 k z z z z z z) fun a k=>oE h fun Br Cu h=>s_call k call144 z z z z z (c_impl_clonePlan fu _ (show rd _ _ [Al,At] (x5:Plan) from ⟨_,_,_,_,z,z,(Enc.rd_agr Aa (m.a00 (Enc.rd_lt Aa))),(Enc.rd_agr Ab (m.a00 (Enc.rd_lt Ab)))⟩) Cu) fun Dn Bk hR=>?_)))
 obtain ⟨Dt,Bv,rfl,e,Au,Ci⟩:=hR
 refine ⟨_,z,fun a k=>?_⟩
 have m:=m.new e Bv (fun b hb=>⟨Ci b hb,Enc.rd_lt (Enc.ow_rd Au) b hb⟩) (Enc.ow_nd Au)
 obtain ⟨Aq,Ay,Ba,Bf,rfl,rfl,Af,Ar,_⟩:=Au
 have m:=m.split2
 refine s_alloc (cs:=[.slice none 0 0,.slice none 0 0]) m k zeroValue74 z z z z z fun Bb Dc a k m e Bz=>s_stb (cs':=[Aq,Ba]) sizeOf74 m 0 Bz 0 k z z z z z z z z z z (allc (rd_o (Enc.ow_rd Af)) (allc (rd_o (Enc.ow_rd Ar)) alln)) fun Cf a k e m Bt=>nn (wp_seq (wr (sv k z (r_ldB ta30 m 5 Bm 0 k z z z z z z) fun a k=>sv k z (r_ldB ta74 m 4 Ai 0 k z z z z z z) fun a k=>oE h fun Dv Cn h=>?_)))
 refine cE k m call44 z z z (c_impl_Feasible fu _ _ (show rd _ _ [I r1.fWay,I r1.fPallet.fW,I r1.fPallet.fD,I r1.fPallet.fH,I r1.fPallet.fGram,I r1.fClasses,Aw,Az,I r1.fMaster,As] (r1:Request) from ⟨_,_,_,_,_,_,z,z,(Enc.rd_agr Ah (m.a00 (Enc.rd_lt Ah))),(Enc.rd_agr Ak (m.a00 (Enc.rd_lt Ak))),(Enc.rd_agr Ap (m.a00 (Enc.rd_lt Ap)))⟩) (show rd _ _ [Al,At] (x5:Plan) from ⟨_,_,_,_,z,z,(Enc.rd_agr Aa (m.a00 (Enc.rd_lt Aa))),(Enc.rd_agr Ab (m.a00 (Enc.rd_lt Ab)))⟩) Cn) fun Df e a k m=>pN 1 k z fun a k=>nn (cI h k z (fun Ce h=>?_) fun Ce h=>?_)
 · refine wr (sv k z (r_ldB ta74 m 0 Bt 0 k z z z z z z) fun a k=>s_stb (cs':=[Aq,Ba]) sizeOf74 m 3 Bp 0 k z z z z z z z z z z (allc (rd_o (Enc.ow_rd Af)) (allc (rd_o (Enc.ow_rd Ar)) alln)) fun Di a k e m Ca=>nn (wp_ret (rt_then ?_)))
   cases h
   exact finR1 k z (RV.cA k z ta74 (Ca.at (m.a 3 z) 0 2 z z z) z) ⟨_,_,z,m.ext,⟨_,Ay,_,Bf,z,z,(Enc.ow_agr Af (m.a 1 z)),(Enc.ow_agr Ar (m.a 2 z)),by simpa [fps] using (m.sel [1,2] z (by decide)).nd⟩,(app_fresh (m.fresh 1 z) (m.fresh 2 z))⟩
 refine wp_skip (nm_then ?_)
 refine wp_seq (wr (sv k z (r_fa fa74_0 k z z) fun a k=>sv k z (r_ldb t143 m 4 Ai 0 k z z z z z) fun a k=>sv k z (r_len (α:=Carton) Aa k underlying43 z z) fun a k=>pN 1 k z fun a k=>nn (wp_block ?_)))
 refine c_loop (fun n a w=>∃ (Aj:List Spot) (Ad:Value) (Ac:List Nat) (Ax:World) (Ao:World) (Ae:Int),K 41 [(2,(.func (.func Cq) #[] By.toArray)),(3,.pointer (some (⟨Be,0,none⟩:Addr))),(4,.pointer (some (⟨Bo,0,none⟩:Addr))),(6,.pointer (some (⟨Bu,0,none⟩:Addr))),(7,.pointer (some (⟨Bb,0,none⟩:Addr))),(18,Al),(19,I ((x5.fCartons.length:Int))),(20,I Ae)] a ∧ St [] w0 w [([Be],Ct),([Bo],Cg),([Bu],Cy),(Ac,Ax),([Bb],Ao),(Ay,Bk)] ∧ ow Ax Ac [Ad] Aj ∧ bx Ao Bb [Aq,Ad] 74 ∧ d_impl_turned_L1 fu r1 x5 f9 Br n Aj Ae = some r) ?_ ?_ fu _ _ ?_
 · rintro a w ⟨_,_,_,_,_,_,_,_,_,_,h⟩
   exact nS h
 · rintro Dy a De ⟨Aj,Ad,Ac,Ax,Ao,Ae,k,m,Am,Bc,h⟩
   rw [d_impl_turned_L1_s] at h
   unfold d_impl_turned_L1_B at h
   refine wr (pN 1 k z fun a k=>nn (wp_seq (cI h k z (fun Cp h=>?_) fun Cp h=>?_)))
   · refine wp_skip (nm_then ?_)
     refine wp_seq (wp_block (wr (pN 1 k z fun a k=>oE h fun Ag Bn h=>sv k z (r_ixa Aa Bn k ts43 z z z) fun a k=>?_)))
     obtain ⟨Dk,Do,Ds,Bx,Cj,Cb⟩:=rd_get Aa (ix_some Bn).2.2
     obtain ⟨Bq,_,rfl,rfl,Av⟩:=Bx
     refine sv k z (r_ldA ta33 (Cj.agr (m.a00 (Enc.rd_lt Aa)) Cb) z k z z) fun a k=>s_alloc (cs:=[I 0,I 0,.slice none 0 0]) m k zeroValue33 z z z z z fun Dq Dr a k m e Cx=>pN 1 k z fun a k=>s_stb (cs':=[I Ag.fType,I Ag.fGroup,Bq]) sizeOf33 m 0 Cx 0 k z z z z z z z z z z (allc z (allc z (allc (rd_o Av) alln))) fun Dh a k e m Cd=>nn (d_go (Ac) mixo m z fun Cl hMd=>?_)
     have m:=hMd
     have s:=Ext.refl ((Ac):List Nat) Cl
     refine dN [2,3,9] 3 z k (by kernel_rfl) z s (fun _ _ _ _ _=>id) fun a k=>dt k 0 z (by kernel_rfl) z s (fun _ _ _=>id) (fun w s=>r_fa fa74_1 k z z) fun a k=>dt k 1 z (by kernel_rfl) z s (fun _ _ _=>id) (fun w s=>r_ld1 t172 (r:=[]) (Bc.at (hMd.az 5 4 z z z s) 1 1 z z z) k z z) fun a k=>dt k 4 z (by kernel_rfl) z s (fun _ _ _=>id) (fun w s=>r_ldA ta30 (Bm.at (hMd.az 1 4 z z z s) 0 10 z z z) z k z z) fun a k=>dt k 5 z (by kernel_rfl) z s (fun _ _ _=>id) (fun w s=>r_ldA ta33 (Cd.at (hMd.az 0 4 z z z s) 0 3 z z z) z k z z) fun a k=>dt k 7 z (by kernel_rfl) z s (fun _ _ _=>id) (fun w s=>r_fa fa74_1 k z z) fun a k=>?_
     refine dt k 8 z (by kernel_rfl) z s (fun _ _ _=>id) (fun w s=>r_ld1 t172 (r:=[]) (Ai.at (hMd.az 2 4 z z z s) 1 1 z z z) k z z) fun a k=>oE h fun Du Bj h=>dt k 10 z (by kernel_rfl) z s (fun _ _ _=>id) (fun w s=>r_ixa Ab Bj k ts72 z z z) fun a k=>dt k 11 z (by kernel_rfl) z s (fun _ _ _=>id) (fun w s=>r_lde Ab (hMd.az0 4 z z (Enc.rd_lt Ab) s) Bj ta139 k z z) fun a k=>d_one 6 (by kernel_rfl) z (oE h fun Dd Cw h=>?_)
     refine cE k m call152 z z z (c_impl_BoxOf fu _ _ (show rd _ _ [I r1.fWay,I r1.fPallet.fW,I r1.fPallet.fD,I r1.fPallet.fH,I r1.fPallet.fGram,I r1.fClasses,Aw,Az,I r1.fMaster,As] (r1:Request) from ⟨_,_,_,_,_,_,z,z,(Enc.rd_agr Ah (m.a00 (Enc.rd_lt Ah))),(Enc.rd_agr Ak (m.a00 (Enc.rd_lt Ak))),(Enc.rd_agr Ap (m.a00 (Enc.rd_lt Ap)))⟩) (show rd _ _ [I Ag.fType,I Ag.fGroup,Bq] (Ag:Carton) from ⟨_,_,z,z,(Enc.rd_agr Av (m.a00 (Enc.rd_lt Av)))⟩) Cw) fun Dp e a k m=>?_
     have s:=s.trans e (by simp)
     refine wpList_nil ⟨s,?_⟩
     refine d_one 12 (by kernel_rfl) z (oE h fun Bi Ck h=>s_callv k Co z z z z z z (Cs _ _ _ _ _ _ m.ext z z Ck) fun Dw Cz hR=>?_)
     obtain ⟨rfl,e⟩:=hR
     refine ⟨_,z,fun a k=>?_⟩
     have m:=m.step e
     have s:=s.trans e (by simp)
     refine wpList_nil ⟨s,?_⟩
     refine oE h fun Dx Bh h=>dt k 13 z (by kernel_rfl) z s (fun _ _ _=>id) (fun w s=>r_ixa (Enc.ow_rd Am) Bh k ts72 z z z) fun a k=>d_one 14 (by kernel_rfl) z (s_ste (α:=Spot) (sz:=4) (y:=Bi) sizeOf139 Bh m 4 Am 0 k z z z z z z z z z z z z fun Bw a k e m Cv=>?_)
     have s:=s.trans e (fun y hy=>Or.inl hy)
     refine wpList_nil ⟨s,?_⟩
     refine d_done (by kernel_rfl) ((nm_block (nm_then ?_)))
     refine wp_region_lit (pN 2 k z fun a k=>nn ?_)
     exact ⟨setx Aj Ae Bi,Ad,Ac,Bw,Ao,w64 (Ae + 1),k.keep [2,3,4,6,7,18,19,20] z,m.sel [1,2,3,4,5,6] z (by decide),Cv,Bc,h⟩
   refine wp_exit (ex_then (ex_then (ex_same (nm_then ?_))))
   refine wr (sv k z (r_ldB ta74 m 4 Bc 0 k z z z z z z) fun a k=>s_stb (cs':=[Aq,Ad]) sizeOf74 m 2 Bp 0 k z z z z z z z z z z (allc (rd_o (Enc.ow_rd Af)) (allc (rd_o (Enc.ow_rd Am)) alln)) fun Db a k e m Ch=>nn (wp_ret ?_))
   cases h
   exact finR1 k z (RV.cA k z ta74 (Ch.at (m.a 2 z) 0 2 z z z) z) ⟨_,_,z,m.ext,⟨_,Ay,_,Ac,z,z,(Enc.ow_agr Af (m.a 5 z)),(Enc.ow_agr Am (m.a 3 z)),by simpa [fps] using (m.sel [5,3] z (by decide)).nd⟩,(app_fresh (m.fresh 5 z) (m.fresh 3 z))⟩
 exact ⟨Br.fSpots,Ba,Bf,Bk,Cf,0,k.keep [2,3,4,6,7,18,19,20] z,m.sel [5,4,3,2,0,1] z (by decide),Ar,Bt,h⟩
theorem c_impl_Front (fu:Nat) {w0:World} (r1:Request) (x5:Plan) {Ai:List Value} {F3:List Nat} (At:rd w0 F3 Ai r1) {Ag:List Value} {F7:List Nat} (Aw:rd w0 F7 Ag x5) {r:Plan}
    (h:d_impl_Front fu r1 x5 = some r) :
    Calls Tryz.prog 46 #[.agg Ai.toArray,.agg Ag.toArray] w0 fun e w=>∃ (Al:List Value) (G0:List Nat),e = .returned (.agg Al.toArray) ∧ Ext [] w0 w ∧ ow w G0 Al r ∧ (∀ b ∈ G0,w0.heap.size ≤ b):=by
 refine enter (vs:=[_,_]) func46 z ntmps46 z fun a k=>?_
 have m:=St.start w0
 obtain ⟨v9,Bs,Ak,Bm,Af,Bk,rfl,rfl,Ab,Ac,Aa⟩:=At
 obtain ⟨Ah,Br,Ae,Bq,rfl,rfl,Am,Aq⟩:=Aw
 unfold d_impl_Front at h
 refine wr (s_box (cs:=[I r1.fWay,I r1.fPallet.fW,I r1.fPallet.fD,I r1.fPallet.fH,I r1.fPallet.fGram,I r1.fClasses,v9,Ak,I r1.fMaster,Af]) m k z z z z z z fun Ar Bj a k m e Aj=>s_box (cs:=[Ah,Ae]) m k z z z z z z fun Bw Bx a k m e Ax=>s_alloc (cs:=[.slice none 0 0,.slice none 0 0]) m k zeroValue74 z z z z z fun Bt Bv a k m e Bb=>nn (wr (sv k z (r_ldB ta30 m 2 Aj 0 k z z z z z z) fun a k=>sv k z (r_ldB ta74 m 1 Ax 0 k z z z z z z) fun a k=>pN 1 k z fun a k=>oE h fun Bl Be h=>?_)))
 refine s_call k call134 z z z z z (c_impl_turned fu _ _ _ (show rd _ _ [I r1.fWay,I r1.fPallet.fW,I r1.fPallet.fD,I r1.fPallet.fH,I r1.fPallet.fGram,I r1.fClasses,v9,Ak,I r1.fMaster,Af] (r1:Request) from ⟨_,_,_,_,_,_,z,z,(Enc.rd_agr Ab (m.a00 (Enc.rd_lt Ab))),(Enc.rd_agr Ac (m.a00 (Enc.rd_lt Ac))),(Enc.rd_agr Aa (m.a00 (Enc.rd_lt Aa)))⟩) (show rd _ _ [Ah,Ae] (x5:Plan) from ⟨_,_,_,_,z,z,(Enc.rd_agr Am (m.a00 (Enc.rd_lt Am))),(Enc.rd_agr Aq (m.a00 (Enc.rd_lt Aq)))⟩) ⟨135,[.pointer (some (⟨Ar,0,none⟩:Addr))],z,call135,fun w Bg Bh Bi Bp r e Az Av hx=>by subst Az; subst Av; have m:=m.step e; exact c_impl_Front_1 fu _ _ _ (Aj.agr (m.a 2 rfl) (by simp)) (Enc.rd_agr Ab (m.a00 (Enc.rd_lt Ab))) (Enc.rd_agr Ac (m.a00 (Enc.rd_lt Ac))) (Enc.rd_agr Aa (m.a00 (Enc.rd_lt Aa))) hx⟩ Be) fun By Bn hR=>?_
 obtain ⟨Bo,Ay,rfl,e,Ad,Au⟩:=hR
 refine ⟨_,z,fun a k=>?_⟩
 have m:=m.new e Ay (fun b hb=>⟨Au b hb,Enc.rd_lt (Enc.ow_rd Ad) b hb⟩) (Enc.ow_nd Ad)
 obtain ⟨Bd,Ba,As,Bf,rfl,rfl,Ap,Ao,_⟩:=Ad
 have m:=m.split2
 refine s_stb (cs':=[Bd,As]) sizeOf74 m 2 Bb 0 k z z z z z z z z z z (allc (rd_o (Enc.ow_rd Ap)) (allc (rd_o (Enc.ow_rd Ao)) alln)) fun Bu a k e m Bc=>nn (wp_ret ?_)
 cases h
 exact finR1 k z (RV.cA k z ta74 (Bc.at (m.a 2 z) 0 2 z z z) z) ⟨_,_,z,m.ext,⟨_,Ba,_,Bf,z,z,(Enc.ow_agr Ap (m.a 0 z)),(Enc.ow_agr Ao (m.a 1 z)),by simpa [fps] using (m.sel [0,1] z (by decide)).nd⟩,(app_fresh (m.fresh 0 z) (m.fresh 1 z))⟩

end Go.Proofs.YtlmibnlfkmiikaaGreat
