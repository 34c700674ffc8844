/- Membership in groups; the groups part the kinds; counting. Own text; no program in sight. -/
import Derived.Test.YtcboeijpplllfaaGreatM2
set_option linter.unusedSimpArgs false
set_option linter.unusedVariables false
namespace Go.Proofs.YtcboeijpplllfaaGreat
open Go
open Enc (rd ow)
open Arg (argv)
open Ret (retv)
open Wf (wf)
end Go.Proofs.YtcboeijpplllfaaGreat
