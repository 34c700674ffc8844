/- FnExactPackText: how.. -/
import Derived.Test.YtpcmapfabndggabGreatDoorK0
set_option maxRecDepth 20000
namespace Go.Proofs.YtpcmapfabndggabGreatDoor
open Go Go.RowKit Go.ChangeShapes Go.WideShapes Go.ChangeAt
open Enc (rd ow)
open Arg (argv)
open Ret (retv)
open Wf (wf)
end Go.Proofs.YtpcmapfabndggabGreatDoor
