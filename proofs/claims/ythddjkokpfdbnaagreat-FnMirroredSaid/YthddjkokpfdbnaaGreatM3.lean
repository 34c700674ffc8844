/- Membership in groups.. -/
import Derived.Test.YthddjkokpfdbnaaGreatM2
set_option linter.unusedSimpArgs false
set_option linter.unusedVariables false
namespace Go.Proofs.YthddjkokpfdbnaaGreat
open Go
open Enc (rd ow)
open Arg (argv)
open Ret (retv)
open Wf (wf)
def Jee (b:Bool):Int:=bif b then 1 else 0
def Jd2 {α:Type} (f:α → Bool):List α → Int
 | []=>0
 | x :: xs=>Jee (f x) + Jd2 f xs
theorem Jdm (b:Bool):0 ≤ Jee b ∧ Jee b ≤ 1:=by cases b <;> simp [Jee]
theorem Q5q {c:Int}:∀ {l:List (List Int)} {i:Nat} {x:List Int},l[i]? = some x → (l.set i (x ++ [c])).flatten.Perm (l.flatten ++ [c])
 | [],i,x,h=>by simp at h
 | y :: l,0,x,h=>by
  simp only [List.getElem?_cons_zero,Option.some.injEq] at h
  subst h
  simp only [List.set_cons_zero,List.flatten_cons,List.append_assoc]
  exact List.Perm.append_left _ List.perm_append_comm
 | y :: l,i + 1,x,h=>by
  simp only [List.set_cons_succ,List.flatten_cons,List.append_assoc]
  exact List.Perm.append_left _ (Q5q (by simpa using h))
theorem Q9s (p:List Pair) (out:List (List Int)) (c:Int):(Q5c p out c).flatten.Perm (out.flatten ++ [c]):=by
 unfold Q5c
 split
 · rename_i i hi
   obtain ⟨x,hx,_⟩:=Qvk hi
   rw [hx]
   exact Q5q hx
 · simp
theorem Q0t (p:List Pair):∀ (l:List Int) (out:List (List Int)),(l.foldl (Q5c p) out).flatten.Perm (out.flatten ++ l)
 | [],out=>by simp
 | c :: l,out=>by
  rw [List.foldl_cons]
  refine (Q0t p l _).trans ?_
  refine ((Q9s p out c).append_right l).trans ?_
  simp
theorem Q5a (r:Request):(Qnr r).flatten.Perm (Qzo r):=by
 have:=Q0t r.fL (Qzo r) []
 simpa [Qnr] using this
theorem Q9p (r:Request):(Qnr r).flatten.Nodup:=(Q5a r).nodup_iff.2 ((Qtv r).imp fun h=>by omega)
theorem Q21 {r:Request} {i j:Nat} {g h:List Int} (hi:(Qnr r)[i]? = some g) (hj:(Qnr r)[j]? = some h) {c:Int} (hg:c ∈ g) (hh:c ∈ h):i = j:=by
 have hp:=(List.pairwise_flatten.1 (Q9p r)).2
 obtain ⟨a1,a2⟩:=List.getElem?_eq_some_iff.1 hi
 obtain ⟨b1,b2⟩:=List.getElem?_eq_some_iff.1 hj
 rcases Nat.lt_trichotomy i j with h1 | h1 | h1
 · have:=List.pairwise_iff_getElem.1 hp i j a1 b1 h1
   rw [a2,b2] at this
   exact (this c hg c hh rfl).elim
 · exact h1
 · have:=List.pairwise_iff_getElem.1 hp j i b1 a1 h1
   rw [a2,b2] at this
   exact (this c hh c hg rfl).elim
theorem Q4u {r:Request} {u:Int} {x:Item} (h:Q1b r u = some x):Qh7 r = 0 ∧ x ∈ r.fG:=by
 unfold Q1b at h
 obtain ⟨i,hi,hx⟩:=Qwi h
 have hm:=Qeg hi
 refine ⟨?_,Qeg hx⟩
 unfold Qil at hm
 cases hc:Qh7 r == 0
 · simp [hc] at hm
 · simpa using hc
theorem Jde {r:Request} {u:Int} {x:Item} (h:Q1b r u = some x):x.fF ∈ Qzo r:=by
 obtain ⟨hc,hx⟩:=Q4u h
 have:=(Qsi (Qfb hc).1).1 x hx
 simp only [Qxa,Bool.and_eq_true,Qc7] at this
 unfold Qzo
 rw [show (Qh7 r == 0) = true by simp [hc],cond_true,List.mem_filter,Qky]
 exact ⟨by omega,List.any_eq_true.2 ⟨x,hx,by simp⟩⟩
def Jba (gs:List (List Int)) (c:Int):Int:=match Qwe (fun g=>g.contains c) gs with | some i=>(i:Int) | none=>-1
theorem Jfa {r:Request} {i:Nat} {g:List Int} (hi:(Qnr r)[i]? = some g) {c:Int} (hc:c ∈ g):Jba (Qnr r) c = i:=by
 unfold Jba
 cases hf:Qwe (fun g=>g.contains c) (Qnr r) with
 | none =>
  have:=Q22 hf g (List.mem_of_getElem? hi)
  simp [hc] at this
 | some j =>
  obtain ⟨h,hj,hh⟩:=Qvk hf
  have:=Q21 hi hj hc (by simpa using hh)
  simp [this]
theorem Jcz {r:Request} {c:Int} (hc:c ∈ Qzo r):∃ (i:Nat) (g:List Int),(Qnr r)[i]? = some g ∧ c ∈ g ∧ Jba (Qnr r) c = i:=by
 have h1:=(Q5a r).mem_iff.2 hc
 obtain ⟨g,hg,hcg⟩:=List.mem_flatten.1 h1
 obtain ⟨i,hi⟩:=List.mem_iff_getElem?.1 hg
 exact ⟨i,g,hi,hcg,Jfa hi hcg⟩
end Go.Proofs.YthddjkokpfdbnaaGreat
