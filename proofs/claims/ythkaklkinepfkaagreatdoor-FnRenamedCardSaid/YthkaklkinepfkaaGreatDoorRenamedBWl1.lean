/- FnRenamed: the walks of functions that it reaches (RenamedBWl,part 1). Printed by gen.py. -/
import Derived.Test.YthkaklkinepfkaaGreatDoorRenamedBT
set_option maxRecDepth 20000
set_option linter.unusedSimpArgs false
set_option linter.unusedVariables false
set_option linter.unnecessarySimpa false
namespace Go.Proofs.YthkaklkinepfkaaGreatDoor
open Go Go.RowKit
open Enc (rd ow)
open Arg (argv)
open Ret (retv)
open Go.Proofs.Tryz


theorem c_laws_big (fu) {w0} (Aa) {v2 F3} (Ab:rd w0 F3 [v2] Aa) {r} (h:d_laws_big fu Aa = some r):cS 9 [v2] w0 (.bool (r)):=by
 refine eg func9 z ntmps9 z fun k m=>gc 14 [lF Ab] k z fun k=>fS h k m z z

end Go.Proofs.YthkaklkinepfkaaGreatDoor
