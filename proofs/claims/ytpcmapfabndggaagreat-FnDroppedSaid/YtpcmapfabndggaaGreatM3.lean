/- Membership in groups.. -/
import Derived.Test.YtpcmapfabndggaaGreatM2
set_option linter.unusedSimpArgs false
set_option linter.unusedVariables false
namespace Go.Proofs.YtpcmapfabndggaaGreat
open Go
open Enc (rd ow)
open Arg (argv)
open Ret (retv)
open Wf (wf)
def Jfe (b:Bool):Int:=bif b then 1 else 0
def Jet {α:Type} (f:α → Bool):List α → Int
 | []=>0
 | x :: xs=>Jfe (f x) + Jet f xs
theorem Jew (b:Bool):0 ≤ Jfe b ∧ Jfe b ≤ 1:=by cases b <;> simp [Jfe]
theorem Q50 {c:Int}:∀ {l:List (List Int)} {i:Nat} {x:List Int},l[i]? = some x → (l.set i (x ++ [c])).flatten.Perm (l.flatten ++ [c])
 | [],i,x,h=>by simp at h
 | y :: l,0,x,h=>by
  simp only [List.getElem?_cons_zero,Option.some.injEq] at h
  subst h
  simp only [List.set_cons_zero,List.flatten_cons,List.append_assoc]
  exact List.Perm.append_left _ List.perm_append_comm
 | y :: l,i + 1,x,h=>by
  simp only [List.set_cons_succ,List.flatten_cons,List.append_assoc]
  exact List.Perm.append_left _ (Q50 (by simpa using h))
theorem Q71 (p:List Pair) (out:List (List Int)) (c:Int):(Q59 p out c).flatten.Perm (out.flatten ++ [c]):=by
 unfold Q59
 split
 · rename_i i hi
   obtain ⟨x,hx,_⟩:=Qvt hi
   rw [hx]
   exact Q50 hx
 · simp
theorem Q1h (p:List Pair):∀ (l:List Int) (out:List (List Int)),(l.foldl (Q59 p) out).flatten.Perm (out.flatten ++ l)
 | [],out=>by simp
 | c :: l,out=>by
  rw [List.foldl_cons]
  refine (Q1h p l _).trans ?_
  refine ((Q71 p out c).append_right l).trans ?_
  simp
theorem Q6c (r:Request):(Qn2 r).flatten.Perm (Qz2 r):=by
 have:=Q1h r.fL (Qz2 r) []
 simpa [Qn2] using this
theorem Q8l (r:Request):(Qn2 r).flatten.Nodup:=(Q6c r).nodup_iff.2 ((Qt4 r).imp λh=>by omega)
theorem Q39 {r:Request} {i j:Nat} {g h:List Int} (hi:(Qn2 r)[i]? = some g) (hj:(Qn2 r)[j]? = some h) {c:Int} (hg:c ∈ g) (hh:c ∈ h):i = j:=by
 have hp:=(List.pairwise_flatten.1 (Q8l r)).2
 obtain ⟨a1,a2⟩:=List.getElem?_eq_some_iff.1 hi
 obtain ⟨b1,b2⟩:=List.getElem?_eq_some_iff.1 hj
 rcases Nat.lt_trichotomy i j with h1 | h1 | h1
 · have:=List.pairwise_iff_getElem.1 hp i j a1 b1 h1
   rw [a2,b2] at this
   exact (this c hg c hh rfl).elim
 · exact h1
 · have:=List.pairwise_iff_getElem.1 hp j i b1 a1 h1
   rw [a2,b2] at this
   exact (this c hh c hg rfl).elim
theorem Q4h {r:Request} {u:Int} {x:Item} (h:Q1w r u = some x):Qh3 r = 0 ∧ x ∈ r.fG:=by
 unfold Q1w at h
 obtain ⟨i,hi,hx⟩:=Qxb h
 have hm:=Qd5 hi
 refine ⟨?_,Qd5 hx⟩
 unfold Qim at hm
 cases hc:Qh3 r == 0
 · simp [hc] at hm
 · simpa using hc
theorem Jea {r:Request} {u:Int} {x:Item} (h:Q1w r u = some x):x.fF ∈ Qz2 r:=by
 obtain ⟨hc,hx⟩:=Q4h h
 have:=(Qsu (Qfq hc).1).1 x hx
 simp only [Qxl,Bool.and_eq_true,Qd3] at this
 unfold Qz2
 rw [show (Qh3 r == 0) = true by simp [hc],cond_true,List.mem_filter,Qmb]
 exact ⟨by omega,List.any_eq_true.2 ⟨x,hx,by simp⟩⟩
def Jbl (gs:List (List Int)) (c:Int):Int:=match Qwq (λg=>g.contains c) gs with | some i=>(i:Int) | none=>-1
theorem Jf8 {r:Request} {i:Nat} {g:List Int} (hi:(Qn2 r)[i]? = some g) {c:Int} (hc:c ∈ g):Jbl (Qn2 r) c = i:=by
 unfold Jbl
 cases hf:Qwq (λg=>g.contains c) (Qn2 r) with
 | none =>
  have:=Q3z hf g (List.mem_of_getElem? hi)
  simp [hc] at this
 | some j =>
  obtain ⟨h,hj,hh⟩:=Qvt hf
  have:=Q39 hi hj hc (by simpa using hh)
  simp [this]
theorem Jd9 {r:Request} {c:Int} (hc:c ∈ Qz2 r):∃ (i:Nat) (g:List Int),(Qn2 r)[i]? = some g ∧ c ∈ g ∧ Jbl (Qn2 r) c = i:=by
 have h1:=(Q6c r).mem_iff.2 hc
 obtain ⟨g,hg,hcg⟩:=List.mem_flatten.1 h1
 obtain ⟨i,hi⟩:=List.mem_iff_getElem?.1 hg
 exact ⟨i,g,hi,hcg,Jf8 hi hcg⟩
end Go.Proofs.YtpcmapfabndggaaGreat
