/- FnExactPack: the wal.. -/
import Derived.Test.YtpcmapfabndggaaGreatDoorExactPackBWi4
import Derived.Test.YtpcmapfabndggaaGreatDoorExactPackBWs5
import Derived.Test.YtpcmapfabndggaaGreatDoorExactPackD
set_option maxRecDepth 20000
set_option linter.unusedSimpArgs false
set_option linter.unusedVariables false
set_option linter.unnecessarySimpa false
namespace Go.Proofs.YtpcmapfabndggaaGreatDoor
open Go Go.RowKit
open Enc (rd ow)
open Arg (argv)
open Ret (retv)
open Go.Proofs.Tryz
theorem Qu8 (fu:Nat) {w0:World} (hT:Te Tryz.prog w0) (Ab:ByteArray)  {r:Bool}
    (h:Ql5 fu Ab=some r) :
    Calls Tryz.prog 4 #[.string (Ab)] w0 λe w=>e=.returned (.bool (r))∧Ext [] w0 w:=by
 refine en (vs:=[_]) func4 z ntmps4 z λa k m=>?_;unfold Ql5 at h;refine wr (pN 1 k z λa k=>nn (wp_seq (wr (pN 1 k z λa k=>sv k z (Qxu k underlying9 z z) λa k=>pN 1 k z λa k=>nn (cI h k z (λAe h=>?_) λAe h=>?_)))))
 · refine wr (pN 1 k z λa k=>nn (wp_ret (Qad ?_)));refine fS h k m z z
 refine wp_skip (Qaa ?_);refine wr (pN 1 k z λa k=>oE h λx3 Ad h=>cC k m call16 z (Q29 fu _  Ad) λw6 e a k m=>pN 5 k z λa k=>nn (wr (pN 1 k z λa k=>oE h λx7 Af h=>cC k m call17 z (Q24 fu (m.te hT) _  Af) λAg e a k m=>pN 5 k z λa k=>nn (wp_seq (wr (pN 4 k z λa k=>Qal (!(x7.1.toList==x3.1.toList)) (λAa=>?_) (λAa=>?_)))))))
 · have h:=Qav Aa h;refine rB k 23 z Aa λk=>pN 4 k z λa k=>?_;have k:=k.keep [27] z;refine nn (wp_cond_true (k.ev z) (wr (pN 1 k z λa k=>nn (wp_ret (Qad ?_)))));refine fS h k m z z
 have h:=Qaw Aa h;refine rB k 23 z Aa λk=>pN 4 k z λa k=>?_;have k:=k.keep [27] z;refine nn (cI h k z (λAc h=>?_) λAc h=>?_)
 · refine wr (pN 1 k z λa k=>nn (wp_ret (Qad ?_)));refine fS h k m z z
 refine wp_skip (Qaa ?_);refine wr (pN 1 k z λa k=>nn (wp_ret (fS h k m z z)))
end Go.Proofs.YtpcmapfabndggaaGreatDoor
