/- Membership in groups; the groups part the kinds; counting. Own text; no program in sight. -/
import Derived.Test.YthkaklkinepfkaaGreatDoorS26
set_option linter.unusedSimpArgs false
set_option linter.unusedVariables false
namespace Go.Proofs.YthkaklkinepfkaaGreatDoor
open Go
open Enc (rd ow)
open Arg (argv)
open Ret (retv)
open Wf (wf)
theorem itm_cls {r:Request} {u:Int} {x:Item} (h:itmM r u = some x):clsM r = 0 ∧ x ∈ r.fItems:=by
 unfold itmM at h
 obtain ⟨i,hi,hx⟩:=obind_some h
 have hm:=ix_mem hi
 refine ⟨?_,ix_mem hx⟩
 unfold untM at hm
 cases hc:clsM r == 0
 · simp [hc] at hm
 · simpa using hc
end Go.Proofs.YthkaklkinepfkaaGreatDoor
