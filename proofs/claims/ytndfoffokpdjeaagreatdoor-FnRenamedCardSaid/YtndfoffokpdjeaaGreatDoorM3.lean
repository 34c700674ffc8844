/- Membership in groups.. -/
import Derived.Test.YtndfoffokpdjeaaGreatDoorM2
set_option linter.unusedSimpArgs false
set_option linter.unusedVariables false
namespace Go.Proofs.YtndfoffokpdjeaaGreatDoor
open Go
open Enc (rd ow)
open Arg (argv)
open Ret (retv)
open Wf (wf)
theorem Q8x {r:Request} {u:Int} {x:Item} (h:Qwi r u=some x):Qgq r=0∧x∈r.fV:=by
 unfold Qwi at h
 obtain ⟨i,hi,hx⟩:=Qsd h
 have hm:=Qm0 hi
 refine ⟨?_,Qm0 hx⟩
 unfold Qlr at hm
 cases hc:Qgq r==0
 · simp [hc] at hm
 · simpa using hc
end Go.Proofs.YtndfoffokpdjeaaGreatDoor
