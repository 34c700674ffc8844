/- ExactPackTextP: plai.. -/
import Derived.Test.YtpcmapfabndggabGreatDoorExactPackTextD
import Derived.Test.YtpcmapfabndggabGreatDoorExactPackTextBP5
set_option linter.unusedSimpArgs false
set_option linter.unusedVariables false
namespace Go.Proofs.YtpcmapfabndggabGreatDoor
open Go
open Enc (rd ow)
open Arg (argv)
open Ret (retv)
open Wf (wf)
theorem Quf (s:ByteArray) (_:wf s):∃ fu,Qhr fu s=some true:=by
 refine ⟨2097153,?_⟩
 unfold Qhr
 by_cases hb:(s.size:Int)>1048576
 · rw [Qa0 (by simpa using hb)]
 rw [Qam (by simpa using hb),Jhy (by omega),Qab,Jh8 (by omega),Qab]
 simp
end Go.Proofs.YtpcmapfabndggabGreatDoor
