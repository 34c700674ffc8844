/- FnPlanned: how the p.. -/
import Derived.Test.YtpcmapfabndggaaGreatDoorK0
set_option maxRecDepth 20000
namespace Go.Proofs.YtpcmapfabndggaaGreatDoor
open Go Go.RowKit Go.ChangeShapes Go.WideShapes Go.ChangeAt
open Enc (rd ow)
open Arg (argv)
open Ret (retv)
open Wf (wf)
theorem tr5 : TR Tryz.prog 5 U8 := Jlh Tryz.underlying5
theorem co5 : Tryz.prog.cellsOf 5=1 := by kernel_rfl
theorem Jl3 : TR Tryz.prog 22 (List U8) := Jc4 Tryz.underlying22 co5 (by decide) tr5
end Go.Proofs.YtpcmapfabndggaaGreatDoor
