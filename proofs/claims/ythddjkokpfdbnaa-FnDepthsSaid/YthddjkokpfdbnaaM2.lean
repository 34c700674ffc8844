/- Kinds, groups, the units of a group, weights, as plain functions. Own text; no program in sight. -/
import Derived.Test.YthddjkokpfdbnaaM1
set_option linter.unusedSimpArgs false
set_option linter.unusedVariables false
namespace Go.Proofs.Ythddjkokpfdbnaa
open Go
open Enc (rd ow)
open Arg (argv)
open Ret (retv)
open Wf (wf)
def mutB (p:List Pair) (a b:Int):Bool:=besB p a b && besB p b a
end Go.Proofs.Ythddjkokpfdbnaa
