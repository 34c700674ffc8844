/- FnTampered: how the .. -/
import Derived.Test.YtpcmapfabndggaaGreatK0
set_option maxRecDepth 20000
namespace Go.Proofs.YtpcmapfabndggaaGreat
open Go Go.RowKit Go.ChangeShapes Go.WideShapes Go.ChangeAt
open Enc (rd ow)
open Arg (argv)
open Ret (retv)
open Wf (wf)
theorem tr5 : TR Tryz.prog 5 U8 := Ji3 Tryz.underlying5
theorem co5 : Tryz.prog.cellsOf 5=1 := by kernel_rfl
theorem Jkr : TR Tryz.prog 22 (List U8) := Jc0 Tryz.underlying22 co5 (by decide) tr5
end Go.Proofs.YtpcmapfabndggaaGreat
