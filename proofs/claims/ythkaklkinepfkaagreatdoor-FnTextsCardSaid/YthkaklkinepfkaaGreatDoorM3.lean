/- Membership in groups; the groups part the kinds; counting. Own text; no program in sight. -/
import Derived.Test.YthkaklkinepfkaaGreatDoorS26
set_option linter.unusedSimpArgs false
set_option linter.unusedVariables false
namespace Go.Proofs.YthkaklkinepfkaaGreatDoor
open Go
open Enc (rd ow)
open Arg (argv)
open Ret (retv)
open Wf (wf)
theorem ofG_mem (r:Request) (g:List Int):∀ (us:List Int) (u0 u:Int),u ∈ ofG r g u0 us ↔ ∃ (j:Nat) (i:Int) (x:Item),us[j]? = some i ∧ u = u0 + j ∧ ix r.fItems i = some x ∧ g.contains x.fClass = true
 | [],u0,u=>by simp [ofG]
 | i :: us,u0,u=>by
  have ih:=ofG_mem r g us (u0 + 1) u
  have key:(u ∈ ofG r g u0 (i :: us)) ↔ ((u = u0 ∧ ∃ x,ix r.fItems i = some x ∧ g.contains x.fClass = true) ∨ u ∈ ofG r g (u0 + 1) us):=by
   rw [ofG]
   cases hx:ix r.fItems i with
   | none=>simp
   | some x =>
    simp only
    cases hg:g.contains x.fClass
    · simp only [cond_false]
      constructor
      · exact .inr
      · rintro (⟨_,y,hy,hg'⟩ | h)
        · cases hy
          rw [hg] at hg'
          cases hg'
        · exact h
    · simp only [cond_true,List.mem_cons]
      constructor
      · rintro (h | h)
        · exact .inl ⟨h,x,rfl,hg⟩
        · exact .inr h
      · rintro (⟨h,_⟩ | h)
        · exact .inl h
        · exact .inr h
  rw [key,ih]
  constructor
  · rintro (⟨rfl,x,hx,hg⟩ | ⟨j,k,x,h1,h2,h3,h4⟩)
    · exact ⟨0,i,x,rfl,by omega,hx,hg⟩
    · exact ⟨j + 1,k,x,by simpa using h1,by omega,h3,h4⟩
  · rintro ⟨j,k,x,h1,h2,h3,h4⟩
    cases j with
    | zero =>
     simp only [List.getElem?_cons_zero,Option.some.injEq] at h1
     subst h1
     exact .inl ⟨by omega,x,h3,h4⟩
    | succ j=>exact .inr ⟨j,k,x,by simpa using h1,by omega,h3,h4⟩
def inG (r:Request) (g:List Int) (u:Int):Bool:=match itmM r u with | some x=>g.contains x.fClass | none=>false
theorem uof_has {r:Request} {k:Int} {g:List Int} (hg:ix (grpM r) k = some g) (u:Int):(uofM r k).contains u = inG r g u:=by
 apply Bool.eq_iff_iff.2
 unfold uofM
 rw [hg,List.contains_iff_mem,ofG_mem]
 unfold inG itmM
 constructor
 · rintro ⟨j,i,x,h1,h2,h3,h4⟩
   have:ix (untM r) u = some i:=by rw [h2,Int.zero_add,ix_nat,h1]
   rw [this,ob_some,h3]
   exact h4
 · intro h
   cases h1:ix (untM r) u with
   | none=>rw [h1] at h; simp at h
   | some i =>
    rw [h1,ob_some] at h
    cases h2:ix r.fItems i with
    | none=>rw [h2] at h; simp at h
    | some x =>
     rw [h2] at h
     obtain ⟨a1,a2,a3⟩:=ix_some h1
     exact ⟨u.toNat,i,x,a3,by omega,h2,h⟩
theorem set_flat {c:Int}:∀ {l:List (List Int)} {i:Nat} {x:List Int},l[i]? = some x → (l.set i (x ++ [c])).flatten.Perm (l.flatten ++ [c])
 | [],i,x,h=>by simp at h
 | y :: l,0,x,h=>by
  simp only [List.getElem?_cons_zero,Option.some.injEq] at h
  subst h
  simp only [List.set_cons_zero,List.flatten_cons,List.append_assoc]
  exact List.Perm.append_left _ List.perm_append_comm
 | y :: l,i + 1,x,h=>by
  simp only [List.set_cons_succ,List.flatten_cons,List.append_assoc]
  exact List.Perm.append_left _ (set_flat (by simpa using h))
theorem putG_flat (p:List Pair) (out:List (List Int)) (c:Int):(putG p out c).flatten.Perm (out.flatten ++ [c]):=by
 unfold putG
 split
 · rename_i i hi
   obtain ⟨x,hx,_⟩:=fstI_lt hi
   rw [hx]
   exact set_flat hx
 · simp
theorem foldG_flat (p:List Pair):∀ (l:List Int) (out:List (List Int)),(l.foldl (putG p) out).flatten.Perm (out.flatten ++ l)
 | [],out=>by simp
 | c :: l,out=>by
  rw [List.foldl_cons]
  refine (foldG_flat p l _).trans ?_
  refine ((putG_flat p out c).append_right l).trans ?_
  simp
theorem grp_flat (r:Request):(grpM r).flatten.Perm (prsM r):=by
 have:=foldG_flat r.fPairs (prsM r) []
 simpa [grpM] using this
theorem grp_nodup (r:Request):(grpM r).flatten.Nodup:=(grp_flat r).nodup_iff.2 ((prsM_sorted r).imp fun h=>by omega)
theorem grp_apart {r:Request} {i j:Nat} {g h:List Int} (hi:(grpM r)[i]? = some g) (hj:(grpM r)[j]? = some h) {c:Int} (hg:c ∈ g) (hh:c ∈ h):i = j:=by
 have hp:=(List.pairwise_flatten.1 (grp_nodup r)).2
 obtain ⟨a1,a2⟩:=List.getElem?_eq_some_iff.1 hi
 obtain ⟨b1,b2⟩:=List.getElem?_eq_some_iff.1 hj
 rcases Nat.lt_trichotomy i j with h1 | h1 | h1
 · have:=List.pairwise_iff_getElem.1 hp i j a1 b1 h1
   rw [a2,b2] at this
   exact (this c hg c hh rfl).elim
 · exact h1
 · have:=List.pairwise_iff_getElem.1 hp j i b1 a1 h1
   rw [a2,b2] at this
   exact (this c hh c hg rfl).elim
theorem itm_cls {r:Request} {u:Int} {x:Item} (h:itmM r u = some x):clsM r = 0 ∧ x ∈ r.fItems:=by
 unfold itmM at h
 obtain ⟨i,hi,hx⟩:=obind_some h
 have hm:=ix_mem hi
 refine ⟨?_,ix_mem hx⟩
 unfold untM at hm
 cases hc:clsM r == 0
 · simp [hc] at hm
 · simpa using hc
theorem itm_prs {r:Request} {u:Int} {x:Item} (h:itmM r u = some x):x.fClass ∈ prsM r:=by
 obtain ⟨hc,hx⟩:=itm_cls h
 have:=(bou_items (clsM_zero hc).1).1 x hx
 simp only [itmB,Bool.and_eq_true,inb_iff] at this
 unfold prsM
 rw [show (clsM r == 0) = true by simp [hc],cond_true,List.mem_filter,ints_mem]
 exact ⟨by omega,List.any_eq_true.2 ⟨x,hx,by simp⟩⟩
def gofM (gs:List (List Int)) (c:Int):Int:=match fstI (fun g=>g.contains c) gs with | some i=>(i:Int) | none=>-1
theorem gof_at {r:Request} {i:Nat} {g:List Int} (hi:(grpM r)[i]? = some g) {c:Int} (hc:c ∈ g):gofM (grpM r) c = i:=by
 unfold gofM
 cases hf:fstI (fun g=>g.contains c) (grpM r) with
 | none =>
  have:=fstI_none hf g (List.mem_of_getElem? hi)
  simp [hc] at this
 | some j =>
  obtain ⟨h,hj,hh⟩:=fstI_lt hf
  have:=grp_apart hi hj hc (by simpa using hh)
  simp [this]
theorem gof_prs {r:Request} {c:Int} (hc:c ∈ prsM r):∃ (i:Nat) (g:List Int),(grpM r)[i]? = some g ∧ c ∈ g ∧ gofM (grpM r) c = i:=by
 have h1:=(grp_flat r).mem_iff.2 hc
 obtain ⟨g,hg,hcg⟩:=List.mem_flatten.1 h1
 obtain ⟨i,hi⟩:=List.mem_iff_getElem?.1 hg
 exact ⟨i,g,hi,hcg,gof_at hi hcg⟩
end Go.Proofs.YthkaklkinepfkaaGreatDoor
