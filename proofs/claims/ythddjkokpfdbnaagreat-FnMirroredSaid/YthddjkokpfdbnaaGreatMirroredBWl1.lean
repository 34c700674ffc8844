/- FnMirrored: the walk.. -/
import Derived.Test.YthddjkokpfdbnaaGreatMirroredBT
set_option maxRecDepth 20000
set_option linter.unusedSimpArgs false
set_option linter.unusedVariables false
set_option linter.unnecessarySimpa false
namespace Go.Proofs.YthddjkokpfdbnaaGreat
open Go Go.RowKit
open Enc (rd ow)
open Arg (argv)
open Ret (retv)
open Go.Proofs.Tryz
theorem Q6l (fu:Nat) {w0:World} (Aa:List U8) {v2:Value} {F3:List Nat} (Ab:rd w0 F3 [v2] Aa) {r:Bool}
    (h:Quw fu Aa = some r) :
    Calls Tryz.prog 12 #[v2] w0 fun e w=>e = .returned (.bool (r)) ∧ Ext [] w0 w:=by
 refine en (vs:=[_]) func12 z ntmps12 z fun a k m=>?_;unfold Quw at h;refine wr (pN 1 k z fun a k=>nn (wr (pN 1 k z fun a k=>sv k z (Qaw (α:=U8) Ab k underlying22 z z) fun a k=>pN 2 k z fun a k=>nn (wp_ret (fS h k m z z)))))
end Go.Proofs.YthddjkokpfdbnaaGreat
