/- Membership in groups.. -/
import Derived.Test.YtpcmapfabndggaaGreatM2
set_option linter.unusedSimpArgs false
set_option linter.unusedVariables false
namespace Go.Proofs.YtpcmapfabndggaaGreat
open Go
open Enc (rd ow)
open Arg (argv)
open Ret (retv)
open Wf (wf)
def Jfg (b:Bool):Int:=bif b then 1 else 0
def Jd2 {α:Type} (f:α → Bool):List α → Int
 | []=>0
 | x :: xs=>Jfg (f x) + Jd2 f xs
theorem Jed (b:Bool):0 ≤ Jfg b ∧ Jfg b ≤ 1:=by cases b <;> simp [Jfg]
theorem Q5p {c:Int}:∀ {l:List (List Int)} {i:Nat} {x:List Int},l[i]? = some x → (l.set i (x ++ [c])).flatten.Perm (l.flatten ++ [c])
 | [],i,x,h=>by simp at h
 | y :: l,0,x,h=>by
  simp only [List.getElem?_cons_zero,Option.some.injEq] at h
  subst h
  simp only [List.set_cons_zero,List.flatten_cons,List.append_assoc]
  exact List.Perm.append_left _ List.perm_append_comm
 | y :: l,i + 1,x,h=>by
  simp only [List.set_cons_succ,List.flatten_cons,List.append_assoc]
  exact List.Perm.append_left _ (Q5p (by simpa using h))
theorem Q79 (p:List Pair) (out:List (List Int)) (c:Int):(Q5f p out c).flatten.Perm (out.flatten ++ [c]):=by
 unfold Q5f
 split
 · rename_i i hi
   obtain ⟨x,hx,_⟩:=Qvr hi
   rw [hx]
   exact Q5p hx
 · simp
theorem Q1c (p:List Pair):∀ (l:List Int) (out:List (List Int)),(l.foldl (Q5f p) out).flatten.Perm (out.flatten ++ l)
 | [],out=>by simp
 | c :: l,out=>by
  rw [List.foldl_cons]
  refine (Q1c p l _).trans ?_
  refine ((Q79 p out c).append_right l).trans ?_
  simp
theorem Q5z (r:Request):(Qnj r).flatten.Perm (Qz5 r):=by
 have:=Q1c r.fL (Qz5 r) []
 simpa [Qnj] using this
theorem Q9l (r:Request):(Qnj r).flatten.Nodup:=(Q5z r).nodup_iff.2 ((Qt7 r).imp λh=>by omega)
theorem Q3c {r:Request} {i j:Nat} {g h:List Int} (hi:(Qnj r)[i]? = some g) (hj:(Qnj r)[j]? = some h) {c:Int} (hg:c ∈ g) (hh:c ∈ h):i = j:=by
 have hp:=(List.pairwise_flatten.1 (Q9l r)).2
 obtain ⟨a1,a2⟩:=List.getElem?_eq_some_iff.1 hi
 obtain ⟨b1,b2⟩:=List.getElem?_eq_some_iff.1 hj
 rcases Nat.lt_trichotomy i j with h1 | h1 | h1
 · have:=List.pairwise_iff_getElem.1 hp i j a1 b1 h1
   rw [a2,b2] at this
   exact (this c hg c hh rfl).elim
 · exact h1
 · have:=List.pairwise_iff_getElem.1 hp j i b1 a1 h1
   rw [a2,b2] at this
   exact (this c hh c hg rfl).elim
theorem Q4i {r:Request} {u:Int} {x:Item} (h:Q2x r u = some x):Qh9 r = 0 ∧ x ∈ r.fG:=by
 unfold Q2x at h
 obtain ⟨i,hi,hx⟩:=Qwy h
 have hm:=Qd5 hi
 refine ⟨?_,Qd5 hx⟩
 unfold Qi0 at hm
 cases hc:Qh9 r == 0
 · simp [hc] at hm
 · simpa using hc
theorem Je6 {r:Request} {u:Int} {x:Item} (h:Q2x r u = some x):x.fF ∈ Qz5 r:=by
 obtain ⟨hc,hx⟩:=Q4i h
 have:=(Qs1 (Qfv hc).1).1 x hx
 simp only [Qxh,Bool.and_eq_true,Qdz] at this
 unfold Qz5
 rw [show (Qh9 r == 0) = true by simp [hc],cond_true,List.mem_filter,Ql6]
 exact ⟨by omega,List.any_eq_true.2 ⟨x,hx,by simp⟩⟩
def Ja4 (gs:List (List Int)) (c:Int):Int:=match Qwr (λg=>g.contains c) gs with | some i=>(i:Int) | none=>-1
theorem Jfz {r:Request} {i:Nat} {g:List Int} (hi:(Qnj r)[i]? = some g) {c:Int} (hc:c ∈ g):Ja4 (Qnj r) c = i:=by
 unfold Ja4
 cases hf:Qwr (λg=>g.contains c) (Qnj r) with
 | none =>
  have:=Q3h hf g (List.mem_of_getElem? hi)
  simp [hc] at this
 | some j =>
  obtain ⟨h,hj,hh⟩:=Qvr hf
  have:=Q3c hi hj hc (by simpa using hh)
  simp [this]
theorem Je4 {r:Request} {c:Int} (hc:c ∈ Qz5 r):∃ (i:Nat) (g:List Int),(Qnj r)[i]? = some g ∧ c ∈ g ∧ Ja4 (Qnj r) c = i:=by
 have h1:=(Q5z r).mem_iff.2 hc
 obtain ⟨g,hg,hcg⟩:=List.mem_flatten.1 h1
 obtain ⟨i,hi⟩:=List.mem_iff_getElem?.1 hg
 exact ⟨i,g,hi,hcg,Jfz hi hcg⟩
end Go.Proofs.YtpcmapfabndggaaGreat
