/- slices.Sort of ints on memory of the call's own: the shelf's contract in this house's words. Own lemmas, over any program. -/
import Derived.Test.YtpcmapfabndggabGreatDoorD0
import Derived.Sort.Grow
set_option linter.unusedSimpArgs false
set_option linter.unusedVariables false
namespace Go.Proofs.YtpcmapfabndggabGreatDoor
open Go Go.RowKit
open Enc (rd ow)
open Arg (argv)
open Ret (retv)
def sortI (xs:List Int):Option (List Int):=if xs.length < 4611686018427387904 then some (xs.mergeSort fun x y=>decide (x ≤ y)) else none
end Go.Proofs.YtpcmapfabndggabGreatDoor
