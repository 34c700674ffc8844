/- FnExactPackText: how the parameters read. Printed by shut.py. -/
import Derived.Test.YthkaklkinepfkaaGreatDoorS26
set_option maxRecDepth 20000
namespace Go.Proofs.YthkaklkinepfkaaGreatDoor
open Go Go.RowKit Go.ChangeShapes Go.WideShapes Go.ChangeAt
open Enc (rd ow)
open Arg (argv)
open Ret (retv)
open Wf (wf)
end Go.Proofs.YthkaklkinepfkaaGreatDoor
