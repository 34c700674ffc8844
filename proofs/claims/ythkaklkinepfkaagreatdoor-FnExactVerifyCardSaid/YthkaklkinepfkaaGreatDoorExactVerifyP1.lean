/- ExactVerifyP: plain lemmas, part 1. -/
import Derived.Test.YthkaklkinepfkaaGreatDoorExactVerifyD
import Derived.Test.YthkaklkinepfkaaGreatDoorExactVerifyBP3
set_option linter.unusedSimpArgs false
set_option linter.unusedVariables false
namespace Go.Proofs.YthkaklkinepfkaaGreatDoor
open Go
open Enc (rd ow)
open Arg (argv)
open Ret (retv)
open Wf (wf)
theorem fnExactVerify_pure (s l:ByteArray) (_:wf s) (_:wf l):∃ fu,d_laws_FnExactVerify fu s l = some true:=by
 refine ⟨2097153,?_⟩
 unfold d_laws_FnExactVerify
 by_cases hb:(s.size:Int) > 1048576
 · rw [bif_true (by simpa using hb)]
 by_cases hc:(l.size:Int) > 1048576
 · rw [bif_false (by simpa using hb),bif_true (by simpa using hc)]
 rw [bif_false (by simpa using hb),bif_false (by simpa using hc),s_ver (by omega) (by omega),ob_some,i_ver (by omega) (by omega),ob_some]
 simp
end Go.Proofs.YthkaklkinepfkaaGreatDoor
