/- FnExactPack: how the.. -/
import Derived.Test.YtpcmapfabndggaaGreatDoorK0
set_option maxRecDepth 20000
namespace Go.Proofs.YtpcmapfabndggaaGreatDoor
open Go Go.RowKit Go.ChangeShapes Go.WideShapes Go.ChangeAt
open Enc (rd ow)
open Arg (argv)
open Ret (retv)
open Wf (wf)
end Go.Proofs.YtpcmapfabndggaaGreatDoor
