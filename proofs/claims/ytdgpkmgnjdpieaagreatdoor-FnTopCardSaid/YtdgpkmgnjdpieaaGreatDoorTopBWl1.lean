/- FnTop: the walks of .. -/
import Derived.Test.YtdgpkmgnjdpieaaGreatDoorTopBT
set_option maxRecDepth 20000
set_option linter.unusedSimpArgs false
set_option linter.unusedVariables false
set_option linter.unnecessarySimpa false
namespace Go.Proofs.YtdgpkmgnjdpieaaGreatDoor
open Go Go.RowKit
open Enc (rd ow)
open Arg (argv)
open Ret (retv)
open Go.Proofs.Tryz
theorem nr {fu D E A J r} (h:ay fu E=some r) (L:rd D J [A] E):cS 4 [A] D (.bool (r)):=by
 refine eg func4 z ntmps4 z λk m=>gc 14 [lF L] k z λk=>fS h k m z z
end Go.Proofs.YtdgpkmgnjdpieaaGreatDoor
