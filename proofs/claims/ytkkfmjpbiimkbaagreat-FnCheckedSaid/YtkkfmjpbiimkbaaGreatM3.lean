/- Membership in groups; the groups part the kinds; counting. Own text; no program in sight. -/
import Derived.Test.YtkkfmjpbiimkbaaGreatM2
set_option linter.unusedSimpArgs false
set_option linter.unusedVariables false
namespace Go.Proofs.YtkkfmjpbiimkbaaGreat
open Go
open Enc (rd ow)
open Arg (argv)
open Ret (retv)
open Wf (wf)
def Jcr (b:Bool):Int:=bif b then 1 else 0
def Jb7 {α:Type} (f:α → Bool):List α → Int
 | []=>0
 | x :: xs=>Jcr (f x) + Jb7 f xs
theorem Jb8 (b:Bool):0 ≤ Jcr b ∧ Jcr b ≤ 1:=by cases b <;> simp [Jcr]
theorem Q4z {c:Int}:∀ {l:List (List Int)} {i:Nat} {x:List Int},l[i]? = some x → (l.set i (x ++ [c])).flatten.Perm (l.flatten ++ [c])
 | [],i,x,h=>by simp at h
 | y :: l,0,x,h=>by
  simp only [List.getElem?_cons_zero,Option.some.injEq] at h
  subst h
  simp only [List.set_cons_zero,List.flatten_cons,List.append_assoc]
  exact List.Perm.append_left _ List.perm_append_comm
 | y :: l,i + 1,x,h=>by
  simp only [List.set_cons_succ,List.flatten_cons,List.append_assoc]
  exact List.Perm.append_left _ (Q4z (by simpa using h))
theorem Q8i (p:List Pair) (out:List (List Int)) (c:Int):(Q4f p out c).flatten.Perm (out.flatten ++ [c]):=by
 unfold Q4f
 split
 · rename_i i hi
   obtain ⟨x,hx,_⟩:=Qu7 hi
   rw [hx]
   exact Q4z hx
 · simp
theorem Qz1 (p:List Pair):∀ (l:List Int) (out:List (List Int)),(l.foldl (Q4f p) out).flatten.Perm (out.flatten ++ l)
 | [],out=>by simp
 | c :: l,out=>by
  rw [List.foldl_cons]
  refine (Qz1 p l _).trans ?_
  refine ((Q8i p out c).append_right l).trans ?_
  simp
theorem Q45 (r:Request):(Qna r).flatten.Perm (Qyu r):=by
 have:=Qz1 r.fPairs (Qyu r) []
 simpa [Qna] using this
theorem Q66 (r:Request):(Qna r).flatten.Nodup:=(Q45 r).nodup_iff.2 ((Qs7 r).imp fun h=>by omega)
theorem Q2j {r:Request} {i j:Nat} {g h:List Int} (hi:(Qna r)[i]? = some g) (hj:(Qna r)[j]? = some h) {c:Int} (hg:c ∈ g) (hh:c ∈ h):i = j:=by
 have hp:=(List.pairwise_flatten.1 (Q66 r)).2
 obtain ⟨a1,a2⟩:=List.getElem?_eq_some_iff.1 hi
 obtain ⟨b1,b2⟩:=List.getElem?_eq_some_iff.1 hj
 rcases Nat.lt_trichotomy i j with h1 | h1 | h1
 · have:=List.pairwise_iff_getElem.1 hp i j a1 b1 h1
   rw [a2,b2] at this
   exact (this c hg c hh rfl).elim
 · exact h1
 · have:=List.pairwise_iff_getElem.1 hp j i b1 a1 h1
   rw [a2,b2] at this
   exact (this c hh c hg rfl).elim
theorem Q3e {r:Request} {u:Int} {x:Item} (h:Q1e r u = some x):Qhm r = 0 ∧ x ∈ r.fItems:=by
 unfold Q1e at h
 obtain ⟨i,hi,hx⟩:=Qwg h
 have hm:=Qe2 hi
 refine ⟨?_,Qe2 hx⟩
 unfold Qh8 at hm
 cases hc:Qhm r == 0
 · simp [hc] at hm
 · simpa using hc
theorem Jbj {r:Request} {u:Int} {x:Item} (h:Q1e r u = some x):x.fClass ∈ Qyu r:=by
 obtain ⟨hc,hx⟩:=Q3e h
 have:=(Qr1 (Qf7 hc).1).1 x hx
 simp only [Qwt,Bool.and_eq_true,Qfu] at this
 unfold Qyu
 rw [show (Qhm r == 0) = true by simp [hc],cond_true,List.mem_filter,Qk2]
 exact ⟨by omega,List.any_eq_true.2 ⟨x,hx,by simp⟩⟩
def Q9w (gs:List (List Int)) (c:Int):Int:=match Qvv (fun g=>g.contains c) gs with | some i=>(i:Int) | none=>-1
theorem Jd9 {r:Request} {i:Nat} {g:List Int} (hi:(Qna r)[i]? = some g) {c:Int} (hc:c ∈ g):Q9w (Qna r) c = i:=by
 unfold Q9w
 cases hf:Qvv (fun g=>g.contains c) (Qna r) with
 | none =>
  have:=Q16 hf g (List.mem_of_getElem? hi)
  simp [hc] at this
 | some j =>
  obtain ⟨h,hj,hh⟩:=Qu7 hf
  have:=Q2j hi hj hc (by simpa using hh)
  simp [this]
theorem Jbn {r:Request} {c:Int} (hc:c ∈ Qyu r):∃ (i:Nat) (g:List Int),(Qna r)[i]? = some g ∧ c ∈ g ∧ Q9w (Qna r) c = i:=by
 have h1:=(Q45 r).mem_iff.2 hc
 obtain ⟨g,hg,hcg⟩:=List.mem_flatten.1 h1
 obtain ⟨i,hi⟩:=List.mem_iff_getElem?.1 hg
 exact ⟨i,g,hi,hcg,Jd9 hi hcg⟩
end Go.Proofs.YtkkfmjpbiimkbaaGreat
