/- Membership in groups.. -/
import Derived.Test.YtpcmapfabndggabGreatDoorM2
set_option linter.unusedSimpArgs false
set_option linter.unusedVariables false
namespace Go.Proofs.YtpcmapfabndggabGreatDoor
open Go
open Enc (rd ow)
open Arg (argv)
open Ret (retv)
open Wf (wf)
theorem Q8o {r:Request} {u:Int} {x:Item} (h:Q2b r u=some x):Qhu r=0∧x∈r.fV:=by
 unfold Q2b at h
 obtain ⟨i,hi,hx⟩:=Qs3 h
 have hm:=Qml hi
 refine ⟨?_,Qml hx⟩
 unfold Qmz at hm
 cases hc:Qhu r==0
 · simp [hc] at hm
 · simpa using hc
end Go.Proofs.YtpcmapfabndggabGreatDoor
