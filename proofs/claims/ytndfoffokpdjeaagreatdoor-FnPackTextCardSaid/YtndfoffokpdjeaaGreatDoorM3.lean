/- Membership in groups.. -/
import Derived.Test.YtndfoffokpdjeaaGreatDoorM2
set_option linter.unusedSimpArgs false
set_option linter.unusedVariables false
namespace Go.Proofs.YtndfoffokpdjeaaGreatDoor
open Go
open Enc (rd ow)
open Arg (argv)
open Ret (retv)
open Wf (wf)
theorem Q82 {r:Request} {u:Int} {x:Item} (h:Q3w r u=some x):Qhh r=0∧x∈r.fV:=by
 unfold Q3w at h
 obtain ⟨i,hi,hx⟩:=Qt1 h
 have hm:=Qi3 hi
 refine ⟨?_,Qi3 hx⟩
 unfold Qi4 at hm
 cases hc:Qhh r==0
 · simp [hc] at hm
 · simpa using hc
end Go.Proofs.YtndfoffokpdjeaaGreatDoor
