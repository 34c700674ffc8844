/- ExactPackTextP: plain lemmas, part 1. -/
import Derived.Test.YthkaklkinepfkaaGreatDoorExactPackTextD
import Derived.Test.YthkaklkinepfkaaGreatDoorExactPackTextBP5
set_option linter.unusedSimpArgs false
set_option linter.unusedVariables false
namespace Go.Proofs.YthkaklkinepfkaaGreatDoor
open Go
open Enc (rd ow)
open Arg (argv)
open Ret (retv)
open Wf (wf)
theorem fnExactPackText_pure (s:ByteArray) (_:wf s):∃ fu,d_laws_FnExactPackText fu s = some true:=by
 refine ⟨2097153,?_⟩
 unfold d_laws_FnExactPackText
 by_cases hb:(s.size:Int) > 1048576
 · rw [bif_true (by simpa using hb)]
 rw [bif_false (by simpa using hb),s_ptx (by omega),ob_some,i_ptx (by omega),ob_some]
 simp
end Go.Proofs.YthkaklkinepfkaaGreatDoor
