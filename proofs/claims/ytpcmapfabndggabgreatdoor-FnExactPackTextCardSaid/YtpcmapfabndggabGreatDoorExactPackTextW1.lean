/- FnExactPackText: the.. -/
import Derived.Test.YtpcmapfabndggabGreatDoorExactPackTextBWi5
import Derived.Test.YtpcmapfabndggabGreatDoorExactPackTextBWs5
import Derived.Test.YtpcmapfabndggabGreatDoorExactPackTextD
set_option maxRecDepth 20000
set_option linter.unusedSimpArgs false
set_option linter.unusedVariables false
set_option linter.unnecessarySimpa false
namespace Go.Proofs.YtpcmapfabndggabGreatDoor
open Go Go.RowKit
open Enc (rd ow)
open Arg (argv)
open Ret (retv)
open Go.Proofs.Tryz
theorem Qti (fu:Nat) {w0:World} (hT:Te Tryz.prog w0) (Aa:ByteArray)  {r:Bool}
    (h:Qhr fu Aa=some r) :
    Calls Tryz.prog 3 #[.string (Aa)] w0 λe w=>e=.returned (.bool (r))∧Ext [] w0 w:=by
 refine en (vs:=[_]) func3 z ntmps3 z λa k m=>?_;unfold Qhr at h;refine wr (pN 1 k z λa k=>nn (wp_seq (wr (pN 1 k z λa k=>sv k z (Qxo k underlying9 z z) λa k=>pN 1 k z λa k=>nn (cI h k z (λAe h=>?_) λAe h=>?_)))))
 · refine wr (pN 1 k z λa k=>nn (wp_ret (Qad ?_)));refine fS h k m z z
 refine wp_skip (Qaa ?_);refine wr (pN 1 k z λa k=>oE h λx3 Ad h=>cC k m call5 z (Qxp fu _  Ad) λw6 e a k m=>pN 1 k z λa k=>nn (wr (pN 1 k z λa k=>oE h λx7 Ac h=>cC k m call6 z (Qx3 fu (m.te hT) _  Ac) λAf e a k m=>pN 1 k z λa k=>nn (wp_seq (wr (pN 3 k z λa k=>nn (cI h k z (λAb h=>?_) λAb h=>?_)))))))
 · refine wr (pN 1 k z λa k=>nn (wp_ret (Qad ?_)));refine fS h k m z z
 refine wp_skip (Qaa ?_);refine wr (pN 1 k z λa k=>nn (wp_ret (fS h k m z z)))
end Go.Proofs.YtpcmapfabndggabGreatDoor
