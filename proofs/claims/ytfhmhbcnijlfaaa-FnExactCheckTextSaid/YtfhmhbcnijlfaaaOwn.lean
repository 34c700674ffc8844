/- Two facts on the whole program. -/
import Derived.Test.YtfhmhbcnijlfaaaRows
import Derived.Test.YtfhmhbcnijlfaaaTy
namespace Go.Proofs.Ytfhmhbcnijlfaaa
open Go Go.RowKit
open Enc (rd ow)
open Arg (argv)
open Ret (retv)
open Wf (wf)
theorem own : ownKnob Try.prog.godebug = none := by kernel_rfl
theorem laidOut : laidOutB Try.prog = true := by kernel_rfl
end Go.Proofs.Ytfhmhbcnijlfaaa
