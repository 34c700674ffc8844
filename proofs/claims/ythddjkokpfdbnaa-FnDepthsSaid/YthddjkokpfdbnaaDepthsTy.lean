/- FnDepths: how the parameters read. Printed by shut.py. -/
import Derived.Test.YthddjkokpfdbnaaK0
set_option maxRecDepth 20000
namespace Go.Proofs.Ythddjkokpfdbnaa
open Go Go.RowKit Go.ChangeShapes Go.WideShapes Go.ChangeAt
open Enc (rd ow)
open Arg (argv)
open Ret (retv)
open Wf (wf)
theorem tr5 : TR Try.prog 5 U8 := tr_u8 Try.underlying5
theorem co5 : Try.prog.cellsOf 5 = 1 := by kernel_rfl
theorem tr22 : TR Try.prog 22 (List U8) := tr_slice Try.underlying22 co5 (by decide) tr5
end Go.Proofs.Ythddjkokpfdbnaa
