/- Membership in groups.. -/
import Derived.Test.YtpcmapfabndggaaGreatDoorM2
set_option linter.unusedSimpArgs false
set_option linter.unusedVariables false
namespace Go.Proofs.YtpcmapfabndggaaGreatDoor
open Go
open Enc (rd ow)
open Arg (argv)
open Ret (retv)
open Wf (wf)
theorem Q8g {r:Request} {u:Int} {x:Item} (h:Q11 r u=some x):Qht r=0∧x∈r.fV:=by
 unfold Q11 at h
 obtain ⟨i,hi,hx⟩:=Qsv h
 have hm:=Qmc hi
 refine ⟨?_,Qmc hx⟩
 unfold Qm0 at hm
 cases hc:Qht r==0
 · simp [hc] at hm
 · simpa using hc
end Go.Proofs.YtpcmapfabndggaaGreatDoor
