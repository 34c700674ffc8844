/- FnPackText: the walk.. -/
import Derived.Test.YtndfoffokpdjeaaGreatDoorPackTextBWi3
import Derived.Test.YtndfoffokpdjeaaGreatDoorPackTextBWs5
import Derived.Test.YtndfoffokpdjeaaGreatDoorPackTextD
set_option maxRecDepth 20000
set_option linter.unusedSimpArgs false
set_option linter.unusedVariables false
set_option linter.unnecessarySimpa false
namespace Go.Proofs.YtndfoffokpdjeaaGreatDoor
open Go Go.RowKit
open Enc (rd ow)
open Arg (argv)
open Ret (retv)
open Go.Proofs.Tryz
theorem Q77 (fu) {w0} (Aa) {v2 F3} (Ab:rd w0 F3 [v2] Aa) {r} (h:Qwp fu Aa=some r):cS 6 [v2] w0 (.bool (r)):=by
 refine eg func6 z ntmps6 z λk m=>gc 14 [lF Ab] k z λk=>fS h k m z z
theorem Qwv (fu:Nat) {w0:World} (hT:Te Tryz.prog w0) (Af:List U8) {v2:Value} {F3:List Nat} (Ad:rd w0 F3 [v2] Af) {r:Bool}
    (h:Qj3 fu Af=some r) :
    Calls Tryz.prog 5 #[v2] w0 λe w=>e=.returned (.bool (r))∧Ext [] w0 w:=by
 refine en (vs:=[_]) func5 z ntmps5 z λa k m=>?_;unfold Qj3 at h;refine wr (pN 1 k z λa k=>nn (wp_seq (wr (pN 1 k z λa k=>oE h λx5 Ao h=>cC k m call6 z (Q77 fu _ (m.r Ad) Ao) λw9 e a k m=>nn (cI h k z (λAx h=>?_) λAx h=>?_)))))
 · refine wr (pN 1 k z λa k=>nn (wp_ret (Qxb ?_)));refine fS h k m z z
 refine wp_skip (Qad ?_);refine wr (pN 1 k z λa k=>oE h λBi Ai h=>cC k m call21 z (Qvy fu _ (m.r Ad) Ai) λBj e a k m=>pN 1 k z λa k=>nn (wr (pN 1 k z λa k=>oE h λAg Bd h=>cC k m call22 z (Qzo fu (m.te hT) _  Bd) λBu e a k m=>pN 1 k z λa k=>nn (wp_seq (wr (pN 2 k z λa k=>oE h λBm Ah h=>cC k m call23 z (Qz8 fu _  Ah) λBk e a k m=>pN 1 k z λa k=>nn (cI h k z (λAy h=>?_) λAy h=>?_)))))))
 · refine wr (pN 1 k z λa k=>nn (wp_ret (Qxb ?_)));refine fS h k m z z
 refine wp_skip (Qad ?_);refine wr (pN 1 k z λa k=>oE h λAu Am h=>cC k m call8 z (Qzu fu (m.te hT) _  Am) λBf e a k m=>pN 5 k z λa k=>nn (wr (pN 1 k z λa k=>oE h λAp Aq h=>sC k call14 z (Qza fu (m.te hT) _  Aq) λBn Bv hR=>?_)));obtain ⟨Bh,Ar,rfl,e,Ae,As⟩:=hR;refine ⟨_,z,λa k=>?_⟩;have m:=m.nw e As Ae;obtain ⟨Al,Bo,Ba,Bq,rfl,rfl,At,Bb,_⟩:=Ae;have m:=m.split2;refine pN 3 k z λa k=>Qaj (cs:=[.slice none 0 0,.slice none 0 0]) m k zeroValue43 z z z z z λBt Bl a k m e Av=>sT (cs':=[Al,Ba]) sizeOf43 m 0 Av 0 k z (Qa9 (Qee (Enc.ow_rd At)) (Qa9 (Qee (Enc.ow_rd Bb)) Qqb)) λBe a k e m Bg=>pN 1 k z λa k=>?_;have k:=k.keep [4,5,6,8] z;refine nn (wp_seq (wr (pN 2 k z λa k=>nn (cI h k z (λAz h=>?_) λAz h=>?_))))
 · refine wr (pN 4 k z λa k=>Qwj (Ag.toList==Au.1.toList) (λAa=>?_) (λAa=>?_))
   · have h:=Qz3 Aa h;refine rB k 34 z Aa λk=>pN 3 k z λa k=>nn (wp_ret (Qxb ?_));refine fS h k m z z
   have h:=Qzb Aa h;refine rB k 34 z Aa λk=>pN 3 k z λa k=>nn (wp_ret (Qxb ?_));refine fS h k m z z
 refine wp_skip (Qad ?_);refine wr (pN 3 k z λa k=>Qwj (!Ap.2) (λAc=>?_) (λAc=>?_))
 · have h:=Qz3 Ac h;refine rB k 39 z Ac λk=>pN 2 k z λa k=>oE h λBp Ak h=>cC k m call24 z (Qum fu _  Ak) λBr e a k m=>oE h λBs Bc h=>sv k z (Qsz Bc k z z z) λa k=>oE h λAj Aw h=>sv k z (Qsz Aw k z z z) λa k=>pN 3 k z λa k=>Qwj (Ag.toList==Aj.toList) (λAb=>?_) (λAb=>?_)
   · have h:=Qz3 Ab h;refine rB k 47 z Ab λk=>pN 4 k z λa k=>nn (wp_ret (fS h k m z z))
   have h:=Qzb Ab h;refine rB k 47 z Ab λk=>pN 4 k z λa k=>nn (wp_ret (fS h k m z z))
 have h:=Qzb Ac h;refine rB k 39 z Ac λk=>pN 12 k z λa k=>nn (wp_ret (fS h k m z z))
end Go.Proofs.YtndfoffokpdjeaaGreatDoor
