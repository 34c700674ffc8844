/- FnExactPackText: the walks of functions that it reaches (ExactPackTextW,part 1). Printed by gen.py. -/
import Derived.Test.YthkaklkinepfkaaGreatDoorExactPackTextBWi3
import Derived.Test.YthkaklkinepfkaaGreatDoorExactPackTextBWs4
import Derived.Test.YthkaklkinepfkaaGreatDoorExactPackTextD
set_option maxRecDepth 20000
set_option linter.unusedSimpArgs false
set_option linter.unusedVariables false
set_option linter.unnecessarySimpa false
namespace Go.Proofs.YthkaklkinepfkaaGreatDoor
open Go Go.RowKit
open Enc (rd ow)
open Arg (argv)
open Ret (retv)
open Go.Proofs.Tryz


theorem c_laws_FnExactPackText (fu:Nat) {w0:World} (hT:Te Tryz.prog w0) (Aa:ByteArray)  {r:Bool}
    (h:d_laws_FnExactPackText fu Aa = some r) :
    Calls Tryz.prog 6 #[.string (Aa)] w0 fun e w=>e = .returned (.bool (r)) ∧ Ext [] w0 w:=by
 refine en (vs:=[_]) func6 z ntmps6 z fun a k m=>?_;unfold d_laws_FnExactPackText at h;refine wr (pN 1 k z fun a k=>nn (wp_seq (wr (pN 1 k z fun a k=>sv k z (r_lenS k underlying9 z z) fun a k=>pN 1 k z fun a k=>nn (cI h k z (fun Ac h=>?_) fun Ac h=>?_)))))
 · refine wr (pN 1 k z fun a k=>nn (wp_ret (rt_then ?_)));refine fS h k m z z
 refine wp_skip (nm_then ?_);refine wr (pN 1 k z fun a k=>oE h fun x3 Ae h=>cC k m call25 z (c_spec_PackText fu _  Ae) fun w6 e a k m=>pN 1 k z fun a k=>nn (wr (pN 1 k z fun a k=>oE h fun x7 Ab h=>cC k m call26 z (c_impl_PackText fu (m.te hT) _  Ab) fun Af e a k m=>pN 1 k z fun a k=>nn (wp_seq (wr (pN 3 k z fun a k=>nn (cI h k z (fun Ad h=>?_) fun Ad h=>?_)))))))
 · refine wr (pN 1 k z fun a k=>nn (wp_ret (rt_then ?_)));refine fS h k m z z
 refine wp_skip (nm_then ?_);refine wr (pN 1 k z fun a k=>nn (wp_ret (fS h k m z z)))

end Go.Proofs.YthkaklkinepfkaaGreatDoor
