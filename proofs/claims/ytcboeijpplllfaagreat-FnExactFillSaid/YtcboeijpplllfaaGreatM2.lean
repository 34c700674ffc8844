/- Kinds, groups, the units of a group, weights, as plain functions. Own text; no program in sight. -/
import Derived.Test.YtcboeijpplllfaaGreatM1
set_option linter.unusedSimpArgs false
set_option linter.unusedVariables false
namespace Go.Proofs.YtcboeijpplllfaaGreat
open Go
open Enc (rd ow)
open Arg (argv)
open Ret (retv)
open Wf (wf)
end Go.Proofs.YtcboeijpplllfaaGreat
