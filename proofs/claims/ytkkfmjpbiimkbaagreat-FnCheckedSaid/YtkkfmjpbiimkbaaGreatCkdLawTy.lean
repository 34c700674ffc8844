/- FnChecked: how the parameters read. Printed by shut.py. -/
import Derived.Test.YtkkfmjpbiimkbaaGreatK0
set_option maxRecDepth 20000
namespace Go.Proofs.YtkkfmjpbiimkbaaGreat
open Go Go.RowKit Go.ChangeShapes Go.WideShapes Go.ChangeAt
open Enc (rd ow)
open Arg (argv)
open Ret (retv)
open Wf (wf)
theorem tr5 : TR Tryz.prog 5 U8 := Jfn Tryz.underlying5
theorem co5 : Tryz.prog.cellsOf 5 = 1 := by kernel_rfl
theorem Jha : TR Tryz.prog 73 (List U8) := Q9u Tryz.underlying73 co5 (by decide) tr5
end Go.Proofs.YtkkfmjpbiimkbaaGreat
