/- FnTop: how the param.. -/
import Derived.Test.YtdgpkmgnjdpieaaGreatDoorS26
set_option maxRecDepth 20000
namespace Go.Proofs.YtdgpkmgnjdpieaaGreatDoor
open Go Go.RowKit Go.ChangeShapes Go.WideShapes Go.ChangeAt
open Enc (rd ow)
open Arg (argv)
open Ret (retv)
open Wf (wf)
theorem tr5 : TR Tryz.prog 5 U8 := yH Tryz.underlying5
theorem co5 : Tryz.prog.cellsOf 5=1 := by kernel_rfl
theorem z1 : TR Tryz.prog 22 (List U8) := ro Tryz.underlying22 co5 A1 tr5
end Go.Proofs.YtdgpkmgnjdpieaaGreatDoor
