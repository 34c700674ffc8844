/- FnPackText: the walk.. -/
import Derived.Test.YthkaklkinepfkaaGreatDoorPackTextBT
set_option maxRecDepth 20000
set_option linter.unusedSimpArgs false
set_option linter.unusedVariables false
set_option linter.unnecessarySimpa false
namespace Go.Proofs.YthkaklkinepfkaaGreatDoor
open Go Go.RowKit
open Enc (rd ow)
open Arg (argv)
open Ret (retv)
open Go.Proofs.Tryz
theorem Q8c (fu) {w0} (Aa) {v2 F3} (Ab:rd w0 F3 [v2] Aa) {r} (h:Qw9 fu Aa=some r):cS 9 [v2] w0 (.bool (r)):=by
 refine eg func9 z ntmps9 z λk m=>gc 14 [lF Ab] k z λk=>fS h k m z z
end Go.Proofs.YthkaklkinepfkaaGreatDoor
