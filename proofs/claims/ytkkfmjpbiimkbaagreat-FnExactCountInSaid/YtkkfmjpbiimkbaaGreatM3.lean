/- Membership in groups; the groups part the kinds; counting. Own text; no program in sight. -/
import Derived.Test.YtkkfmjpbiimkbaaGreatM2
set_option linter.unusedSimpArgs false
set_option linter.unusedVariables false
namespace Go.Proofs.YtkkfmjpbiimkbaaGreat
open Go
open Enc (rd ow)
open Arg (argv)
open Ret (retv)
open Wf (wf)
def bitI (b:Bool):Int:=bif b then 1 else 0
def cntB {α:Type} (f:α → Bool):List α → Int
 | []=>0
 | x :: xs=>bitI (f x) + cntB f xs
theorem bitI_bd (b:Bool):0 ≤ bitI b ∧ bitI b ≤ 1:=by cases b <;> simp [bitI]
end Go.Proofs.YtkkfmjpbiimkbaaGreat
