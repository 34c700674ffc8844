/- == on structures of ints. Own lemmas, over any program; one theorem for each such structure of the program. -/
import Derived.Test.YthddjkokpfdbnaaD0
import Derived.Laws.StructEq
import Derived.ChangeKeysEq
set_option linter.unusedSimpArgs false
set_option linter.unusedVariables false
namespace Go.Proofs.Ythddjkokpfdbnaa
open Go Go.RowKit
open Enc (rd ow)
open Arg (argv)
open Ret (retv)
end Go.Proofs.Ythddjkokpfdbnaa
