/- slices.Compact of ints on memory of the call's own: the shelf's contract in this house's words. Own lemmas, over any program. -/
import Derived.Test.YtcboeijpplllfaaGreatS12
import Derived.Lib.SlicesCompact
set_option linter.unusedSimpArgs false
set_option linter.unusedVariables false
namespace Go.Proofs.YtcboeijpplllfaaGreat
open Go Go.RowKit
open Enc (rd ow)
open Arg (argv)
open Ret (retv)
end Go.Proofs.YtcboeijpplllfaaGreat
