/- Membership in groups; the groups part the kinds; counting. Own text; no program in sight. -/
import Derived.Test.YthddjkokpfdbnaaGreatM2
set_option linter.unusedSimpArgs false
set_option linter.unusedVariables false
namespace Go.Proofs.YthddjkokpfdbnaaGreat
open Go
open Enc (rd ow)
open Arg (argv)
open Ret (retv)
open Wf (wf)
def bitI (b:Bool):Int:=bif b then 1 else 0
def cntB {α:Type} (f:α → Bool):List α → Int
 | []=>0
 | x :: xs=>bitI (f x) + cntB f xs
theorem bitI_bd (b:Bool):0 ≤ bitI b ∧ bitI b ≤ 1:=by cases b <;> simp [bitI]
theorem set_flat {c:Int}:∀ {l:List (List Int)} {i:Nat} {x:List Int},l[i]? = some x → (l.set i (x ++ [c])).flatten.Perm (l.flatten ++ [c])
 | [],i,x,h=>by simp at h
 | y :: l,0,x,h=>by
  simp only [List.getElem?_cons_zero,Option.some.injEq] at h
  subst h
  simp only [List.set_cons_zero,List.flatten_cons,List.append_assoc]
  exact List.Perm.append_left _ List.perm_append_comm
 | y :: l,i + 1,x,h=>by
  simp only [List.set_cons_succ,List.flatten_cons,List.append_assoc]
  exact List.Perm.append_left _ (set_flat (by simpa using h))
theorem itm_cls {r:Request} {u:Int} {x:Item} (h:itmM r u = some x):clsM r = 0 ∧ x ∈ r.fItems:=by
 unfold itmM at h
 obtain ⟨i,hi,hx⟩:=obind_some h
 have hm:=ix_mem hi
 refine ⟨?_,ix_mem hx⟩
 unfold untM at hm
 cases hc:clsM r == 0
 · simp [hc] at hm
 · simpa using hc
end Go.Proofs.YthddjkokpfdbnaaGreat
