/- FnPackText: how the .. -/
import Derived.Test.YthkaklkinepfkaaGreatDoorS26
set_option maxRecDepth 20000
namespace Go.Proofs.YthkaklkinepfkaaGreatDoor
open Go Go.RowKit Go.ChangeShapes Go.WideShapes Go.ChangeAt
open Enc (rd ow)
open Arg (argv)
open Ret (retv)
open Wf (wf)
theorem tr5 : TR Tryz.prog 5 U8 := Jnk Tryz.underlying5
theorem co5 : Tryz.prog.cellsOf 5=1 := by kernel_rfl
theorem Jop : TR Tryz.prog 22 (List U8) := Jdp Tryz.underlying22 co5 (by decide) tr5
end Go.Proofs.YthkaklkinepfkaaGreatDoor
