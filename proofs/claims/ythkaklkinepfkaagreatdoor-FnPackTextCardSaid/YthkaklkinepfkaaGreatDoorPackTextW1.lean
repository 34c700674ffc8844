/- FnPackText: the walk.. -/
import Derived.Test.YthkaklkinepfkaaGreatDoorPackTextBWi3
import Derived.Test.YthkaklkinepfkaaGreatDoorPackTextBWs5
import Derived.Test.YthkaklkinepfkaaGreatDoorPackTextBWl1
import Derived.Test.YthkaklkinepfkaaGreatDoorPackTextD
set_option maxRecDepth 20000
set_option linter.unusedSimpArgs false
set_option linter.unusedVariables false
set_option linter.unnecessarySimpa false
namespace Go.Proofs.YthkaklkinepfkaaGreatDoor
open Go Go.RowKit
open Enc (rd ow)
open Arg (argv)
open Ret (retv)
open Go.Proofs.Tryz
theorem Qwu (fu:Nat) {w0:World} (hT:Te Tryz.prog w0) (Af:List U8) {v2:Value} {F3:List Nat} (Ad:rd w0 F3 [v2] Af) {r:Bool}
    (h:Qj5 fu Af=some r) :
    Calls Tryz.prog 8 #[v2] w0 λe w=>e=.returned (.bool (r))∧Ext [] w0 w:=by
 refine en (vs:=[_]) func8 z ntmps8 z λa k m=>?_;unfold Qj5 at h;refine wr (pN 1 k z λa k=>nn (wp_seq (wr (pN 1 k z λa k=>oE h λx5 Am h=>cC k m call9 z (Q8c fu _ (m.r Ad) Am) λw9 e a k m=>nn (cI h k z (λBd h=>?_) λBd h=>?_)))))
 · refine wr (pN 1 k z λa k=>nn (wp_ret (Qws ?_)));refine fS h k m z z
 refine wp_skip (Qad ?_);refine wr (pN 1 k z λa k=>oE h λBn Al h=>cC k m call31 z (Qvw fu _ (m.r Ad) Al) λBk e a k m=>pN 1 k z λa k=>nn (wr (pN 1 k z λa k=>oE h λAg Ao h=>cC k m call26 z (Qze fu (m.te hT) _  Ao) λBj e a k m=>pN 1 k z λa k=>nn (wp_seq (wr (pN 2 k z λa k=>oE h λBq Av h=>cC k m call25 z (Qz4 fu _  Av) λBp e a k m=>pN 1 k z λa k=>nn (cI h k z (λAz h=>?_) λAz h=>?_)))))))
 · refine wr (pN 1 k z λa k=>nn (wp_ret (Qws ?_)));refine fS h k m z z
 refine wp_skip (Qad ?_);refine wr (pN 1 k z λa k=>oE h λAx Au h=>cC k m call24 z (Qy1 fu (m.te hT) _  Au) λBo e a k m=>pN 5 k z λa k=>nn (wr (pN 1 k z λa k=>oE h λBa Ai h=>sC k call12 z (Qz0 fu (m.te hT) _  Ai) λBf Bm hR=>?_)));obtain ⟨Bu,Aq,rfl,e,Ae,Bc⟩:=hR;refine ⟨_,z,λa k=>?_⟩;have m:=m.nw e Bc Ae;obtain ⟨Ay,Bi,Aj,Bg,rfl,rfl,Bb,Aw,_⟩:=Ae;have m:=m.split2;refine pN 3 k z λa k=>Qaj (cs:=[.slice none 0 0,.slice none 0 0]) m k zeroValue27 z z z z z λBl Bt a k m e Ak=>sT (cs':=[Ay,Aj]) sizeOf27 m 0 Ak 0 k z (Qa9 (Qed (Enc.ow_rd Bb)) (Qa9 (Qed (Enc.ow_rd Aw)) Qqm)) λBv a k e m Br=>pN 1 k z λa k=>?_;have k:=k.keep [4,5,6,8] z;refine nn (wp_seq (wr (pN 2 k z λa k=>nn (cI h k z (λAr h=>?_) λAr h=>?_))))
 · refine wr (pN 4 k z λa k=>Qv3 (Ag.toList==Ax.1.toList) (λAa=>?_) (λAa=>?_))
   · have h:=Qzf Aa h;refine rB k 34 z Aa λk=>pN 3 k z λa k=>nn (wp_ret (Qws ?_));refine fS h k m z z
   have h:=Qz6 Aa h;refine rB k 34 z Aa λk=>pN 3 k z λa k=>nn (wp_ret (Qws ?_));refine fS h k m z z
 refine wp_skip (Qad ?_);refine wr (pN 3 k z λa k=>Qv3 (!Ba.2) (λAb=>?_) (λAb=>?_))
 · have h:=Qzf Ab h;refine rB k 39 z Ab λk=>pN 2 k z λa k=>oE h λBh Ap h=>cC k m call32 z (Qup fu _  Ap) λBs e a k m=>oE h λBe As h=>sv k z (Qsw As k z z z) λa k=>oE h λAt Ah h=>sv k z (Qsw Ah k z z z) λa k=>pN 3 k z λa k=>Qv3 (Ag.toList==At.toList) (λAc=>?_) (λAc=>?_)
   · have h:=Qzf Ac h;refine rB k 47 z Ac λk=>pN 4 k z λa k=>nn (wp_ret (fS h k m z z))
   have h:=Qz6 Ac h;refine rB k 47 z Ac λk=>pN 4 k z λa k=>nn (wp_ret (fS h k m z z))
 have h:=Qz6 Ab h;refine rB k 39 z Ab λk=>pN 12 k z λa k=>nn (wp_ret (fS h k m z z))
end Go.Proofs.YthkaklkinepfkaaGreatDoor
