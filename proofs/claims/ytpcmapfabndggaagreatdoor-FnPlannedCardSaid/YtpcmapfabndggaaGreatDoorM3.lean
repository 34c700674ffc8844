/- Membership in groups.. -/
import Derived.Test.YtpcmapfabndggaaGreatDoorM2
set_option linter.unusedSimpArgs false
set_option linter.unusedVariables false
namespace Go.Proofs.YtpcmapfabndggaaGreatDoor
open Go
open Enc (rd ow)
open Arg (argv)
open Ret (retv)
open Wf (wf)
theorem Q6d (r:Request) (g:List Int):∀ (us:List Int) (u0 u:Int),u∈ofG r g u0 us↔∃ (j:Nat) (i:Int) (x:Item),us[j]? = some i∧u=u0+j∧ix r.fU i=some x∧g.contains x.fL=true
 | [],u0,u=>by simp [ofG]
 | i::us,u0,u=>by
  have ih:=Q6d r g us (u0+1) u
  have key:(u∈ofG r g u0 (i::us))↔((u=u0∧∃ x,ix r.fU i=some x∧g.contains x.fL=true)∨u∈ofG r g (u0+1) us):=by
   rw [ofG]
   cases hx:ix r.fU i with
   | none=>simp
   | some x =>
    simp only
    cases hg:g.contains x.fL
    · simp only [cond_false]
      constructor
      · exact .inr
      · rintro (⟨_,y,hy,hg'⟩ | h)
        · cases hy
          rw [hg] at hg'
          cases hg'
        · exact h
    · simp only [cond_true,List.mem_cons]
      constructor
      · rintro (h | h)
        · exact .inl ⟨h,x,rfl,hg⟩
        · exact .inr h
      · rintro (⟨h,_⟩ | h)
        · exact .inl h
        · exact .inr h
  rw [key,ih]
  constructor
  · rintro (⟨rfl,x,hx,hg⟩ | ⟨j,k,x,h1,h2,h3,h4⟩)
    · exact ⟨0,i,x,rfl,by omega,hx,hg⟩
    · exact ⟨j+1,k,x,by simpa using h1,by omega,h3,h4⟩
  · rintro ⟨j,k,x,h1,h2,h3,h4⟩
    cases j with
    | zero =>
     simp only [List.getElem?_cons_zero,Option.some.injEq] at h1
     subst h1
     exact .inl ⟨by omega,x,h3,h4⟩
    | succ j=>exact .inr ⟨j,k,x,by simpa using h1,by omega,h3,h4⟩
def inG (r:Request) (g:List Int) (u:Int):Bool:=match Qz1 r u with | some x=>g.contains x.fL | none=>false
theorem Jgt {r:Request} {k:Int} {g:List Int} (hg:ix (Qhv r) k=some g) (u:Int):(Qv6 r k).contains u=inG r g u:=by
 apply Bool.eq_iff_iff.2
 unfold Qv6
 rw [hg,List.contains_iff_mem,Q6d]
 unfold inG Qz1
 constructor
 · rintro ⟨j,i,x,h1,h2,h3,h4⟩
   have:ix (Qja r) u=some i:=by rw [h2,Int.zero_add,Qi4,h1]
   rw [this,Qab,h3]
   exact h4
 · intro h
   cases h1:ix (Qja r) u with
   | none=>rw [h1] at h; simp at h
   | some i =>
    rw [h1,Qab] at h
    cases h2:ix r.fU i with
    | none=>rw [h2] at h; simp at h
    | some x =>
     rw [h2] at h
     obtain ⟨a1,a2,a3⟩:=Qal h1
     exact ⟨u.toNat,i,x,a3,by omega,h2,h⟩
theorem Qw2 {c:Int}:∀ {l:List (List Int)} {i:Nat} {x:List Int},l[i]? = some x→(l.set i (x++[c])).flatten.Perm (l.flatten++[c])
 | [],i,x,h=>by simp at h
 | y::l,0,x,h=>by
  simp only [List.getElem?_cons_zero,Option.some.injEq] at h
  subst h
  simp only [List.set_cons_zero,List.flatten_cons,List.append_assoc]
  exact List.Perm.append_left _ List.perm_append_comm
 | y::l,i+1,x,h=>by
  simp only [List.set_cons_succ,List.flatten_cons,List.append_assoc]
  exact List.Perm.append_left _ (Qw2 (by simpa using h))
theorem Q9r (p:List Pair) (out:List (List Int)) (c:Int):(Q50 p out c).flatten.Perm (out.flatten++[c]):=by
 unfold Q50
 split
 · rename_i i hi
   obtain ⟨x,hx,_⟩:=Quv hi
   rw [hx]
   exact Qw2 hx
 · simp
theorem Q2n (p:List Pair):∀ (l:List Int) (out:List (List Int)),(l.foldl (Q50 p) out).flatten.Perm (out.flatten++l)
 | [],out=>by simp
 | c::l,out=>by
  rw [List.foldl_cons]
  refine (Q2n p l _).trans ?_
  refine ((Q9r p out c).append_right l).trans ?_
  simp
theorem Q7f (r:Request):(Qhv r).flatten.Perm (Q0c r):=by
 have:=Q2n r.fT (Q0c r) []
 simpa [Qhv] using this
theorem Ja7 (r:Request):(Qhv r).flatten.Nodup:=(Q7f r).nodup_iff.2 ((Quw r).imp λh=>by omega)
theorem Q07 {r:Request} {i j:Nat} {g h:List Int} (hi:(Qhv r)[i]? = some g) (hj:(Qhv r)[j]? = some h) {c:Int} (hg:c∈g) (hh:c∈h):i=j:=by
 have hp:=(List.pairwise_flatten.1 (Ja7 r)).2
 obtain ⟨a1,a2⟩:=List.getElem?_eq_some_iff.1 hi
 obtain ⟨b1,b2⟩:=List.getElem?_eq_some_iff.1 hj
 rcases Nat.lt_trichotomy i j with h1 | h1 | h1
 · have:=List.pairwise_iff_getElem.1 hp i j a1 b1 h1
   rw [a2,b2] at this
   exact (this c hg c hh rfl).elim
 · exact h1
 · have:=List.pairwise_iff_getElem.1 hp j i b1 a1 h1
   rw [a2,b2] at this
   exact (this c hh c hg rfl).elim
theorem Q6y {r:Request} {u:Int} {x:Item} (h:Qz1 r u=some x):Qhg r=0∧x∈r.fU:=by
 unfold Qz1 at h
 obtain ⟨i,hi,hx⟩:=Qud h
 have hm:=Qf7 hi
 refine ⟨?_,Qf7 hx⟩
 unfold Qja at hm
 cases hc:Qhg r==0
 · simp [hc] at hm
 · simpa using hc
theorem Jac {r:Request} {u:Int} {x:Item} (h:Qz1 r u=some x):x.fL∈Q0c r:=by
 obtain ⟨hc,hx⟩:=Q6y h
 have:=(Qr2 (Qez hc).1).1 x hx
 simp only [Qyk,Bool.and_eq_true,Qcu] at this
 unfold Q0c
 rw [show (Qhg r==0)=true by simp [hc],cond_true,List.mem_filter,Qc5]
 exact ⟨by omega,List.any_eq_true.2 ⟨x,hx,by simp⟩⟩
def Ji6 (gs:List (List Int)) (c:Int):Int:=match Qxb (λg=>g.contains c) gs with | some i=>(i:Int) | none=>-1
theorem Jel {r:Request} {i:Nat} {g:List Int} (hi:(Qhv r)[i]? = some g) {c:Int} (hc:c∈g):Ji6 (Qhv r) c=i:=by
 unfold Ji6
 cases hf:Qxb (λg=>g.contains c) (Qhv r) with
 | none =>
  have:=Q5i hf g (List.mem_of_getElem? hi)
  simp [hc] at this
 | some j =>
  obtain ⟨h,hj,hh⟩:=Quv hf
  have:=Q07 hi hj hc (by simpa using hh)
  simp [this]
theorem Jbj {r:Request} {c:Int} (hc:c∈Q0c r):∃ (i:Nat) (g:List Int),(Qhv r)[i]? = some g∧c∈g∧Ji6 (Qhv r) c=i:=by
 have h1:=(Q7f r).mem_iff.2 hc
 obtain ⟨g,hg,hcg⟩:=List.mem_flatten.1 h1
 obtain ⟨i,hi⟩:=List.mem_iff_getElem?.1 hg
 exact ⟨i,g,hi,hcg,Jel hi hcg⟩
end Go.Proofs.YtpcmapfabndggaaGreatDoor
