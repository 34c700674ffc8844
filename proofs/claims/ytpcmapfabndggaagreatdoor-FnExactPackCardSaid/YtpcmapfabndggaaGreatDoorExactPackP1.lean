/- ExactPackP: plain le.. -/
import Derived.Test.YtpcmapfabndggaaGreatDoorExactPackD
import Derived.Test.YtpcmapfabndggaaGreatDoorExactPackBP5
set_option linter.unusedSimpArgs false
set_option linter.unusedVariables false
namespace Go.Proofs.YtpcmapfabndggaaGreatDoor
open Go
open Enc (rd ow)
open Arg (argv)
open Ret (retv)
open Wf (wf)
theorem Qwr (s:ByteArray) (_:wf s):∃ fu,Ql5 fu s=some true:=by
 refine ⟨2097153,?_⟩
 unfold Ql5
 by_cases hb:(s.size:Int)>1048576
 · rw [Qa0 (by simpa using hb)]
 rw [Qam (by simpa using hb),Jgn (by omega),Qab,Jhe (by omega),Qab]
 simp
end Go.Proofs.YtpcmapfabndggaaGreatDoor
