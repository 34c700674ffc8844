/- Membership in groups.. -/
import Derived.Test.YtpcmapfabndggaaGreatM2
set_option linter.unusedSimpArgs false
set_option linter.unusedVariables false
namespace Go.Proofs.YtpcmapfabndggaaGreat
open Go
open Enc (rd ow)
open Arg (argv)
open Ret (retv)
open Wf (wf)
theorem Q5b (r:Request) (g:List Int):∀ (us:List Int) (u0 u:Int),u∈ofG r g u0 us↔∃ (j:Nat) (i:Int) (x:Item),us[j]? = some i∧u=u0+j∧ix r.fU i=some x∧g.contains x.fM=true
 | [],u0,u=>by simp [ofG]
 | i::us,u0,u=>by
  have ih:=Q5b r g us (u0+1) u
  have key:(u∈ofG r g u0 (i::us))↔((u=u0∧∃ x,ix r.fU i=some x∧g.contains x.fM=true)∨u∈ofG r g (u0+1) us):=by
   rw [ofG]
   cases hx:ix r.fU i with
   | none=>simp
   | some x =>
    simp only
    cases hg:g.contains x.fM
    · simp only [cond_false]
      constructor
      · exact .inr
      · rintro (⟨_,y,hy,hg'⟩ | h)
        · cases hy
          rw [hg] at hg'
          cases hg'
        · exact h
    · simp only [cond_true,List.mem_cons]
      constructor
      · rintro (h | h)
        · exact .inl ⟨h,x,rfl,hg⟩
        · exact .inr h
      · rintro (⟨h,_⟩ | h)
        · exact .inl h
        · exact .inr h
  rw [key,ih]
  constructor
  · rintro (⟨rfl,x,hx,hg⟩ | ⟨j,k,x,h1,h2,h3,h4⟩)
    · exact ⟨0,i,x,rfl,by omega,hx,hg⟩
    · exact ⟨j+1,k,x,by simpa using h1,by omega,h3,h4⟩
  · rintro ⟨j,k,x,h1,h2,h3,h4⟩
    cases j with
    | zero =>
     simp only [List.getElem?_cons_zero,Option.some.injEq] at h1
     subst h1
     exact .inl ⟨by omega,x,h3,h4⟩
    | succ j=>exact .inr ⟨j,k,x,by simpa using h1,by omega,h3,h4⟩
def inG (r:Request) (g:List Int) (u:Int):Bool:=match Qzv r u with | some x=>g.contains x.fM | none=>false
theorem Jfs {r:Request} {k:Int} {g:List Int} (hg:ix (Qhr r) k=some g) (u:Int):(Qve r k).contains u=inG r g u:=by
 apply Bool.eq_iff_iff.2
 unfold Qve
 rw [hg,List.contains_iff_mem,Q5b]
 unfold inG Qzv
 constructor
 · rintro ⟨j,i,x,h1,h2,h3,h4⟩
   have:ix (Qje r) u=some i:=by rw [h2,Int.zero_add,Qix,h1]
   rw [this,Qab,h3]
   exact h4
 · intro h
   cases h1:ix (Qje r) u with
   | none=>rw [h1] at h; simp at h
   | some i =>
    rw [h1,Qab] at h
    cases h2:ix r.fU i with
    | none=>rw [h2] at h; simp at h
    | some x =>
     rw [h2] at h
     obtain ⟨a1,a2,a3⟩:=Qaj h1
     exact ⟨u.toNat,i,x,a3,by omega,h2,h⟩
theorem Qwg {c:Int}:∀ {l:List (List Int)} {i:Nat} {x:List Int},l[i]? = some x→(l.set i (x++[c])).flatten.Perm (l.flatten++[c])
 | [],i,x,h=>by simp at h
 | y::l,0,x,h=>by
  simp only [List.getElem?_cons_zero,Option.some.injEq] at h
  subst h
  simp only [List.set_cons_zero,List.flatten_cons,List.append_assoc]
  exact List.Perm.append_left _ List.perm_append_comm
 | y::l,i+1,x,h=>by
  simp only [List.set_cons_succ,List.flatten_cons,List.append_assoc]
  exact List.Perm.append_left _ (Qwg (by simpa using h))
theorem Q8o (p:List Pair) (out:List (List Int)) (c:Int):(Q44 p out c).flatten.Perm (out.flatten++[c]):=by
 unfold Q44
 split
 · rename_i i hi
   obtain ⟨x,hx,_⟩:=Qtz hi
   rw [hx]
   exact Qwg hx
 · simp
theorem Q1x (p:List Pair):∀ (l:List Int) (out:List (List Int)),(l.foldl (Q44 p) out).flatten.Perm (out.flatten++l)
 | [],out=>by simp
 | c::l,out=>by
  rw [List.foldl_cons]
  refine (Q1x p l _).trans ?_
  refine ((Q8o p out c).append_right l).trans ?_
  simp
theorem Q6s (r:Request):(Qhr r).flatten.Perm (Qz6 r):=by
 have:=Q1x r.fP (Qz6 r) []
 simpa [Qhr] using this
theorem Jam (r:Request):(Qhr r).flatten.Nodup:=(Q6s r).nodup_iff.2 ((Qtx r).imp λh=>by omega)
theorem Qzr {r:Request} {i j:Nat} {g h:List Int} (hi:(Qhr r)[i]? = some g) (hj:(Qhr r)[j]? = some h) {c:Int} (hg:c∈g) (hh:c∈h):i=j:=by
 have hp:=(List.pairwise_flatten.1 (Jam r)).2
 obtain ⟨a1,a2⟩:=List.getElem?_eq_some_iff.1 hi
 obtain ⟨b1,b2⟩:=List.getElem?_eq_some_iff.1 hj
 rcases Nat.lt_trichotomy i j with h1 | h1 | h1
 · have:=List.pairwise_iff_getElem.1 hp i j a1 b1 h1
   rw [a2,b2] at this
   exact (this c hg c hh rfl).elim
 · exact h1
 · have:=List.pairwise_iff_getElem.1 hp j i b1 a1 h1
   rw [a2,b2] at this
   exact (this c hh c hg rfl).elim
theorem Q5d {r:Request} {u:Int} {x:Item} (h:Qzv r u=some x):Qhd r=0∧x∈r.fU:=by
 unfold Qzv at h
 obtain ⟨i,hi,hx⟩:=Qtv h
 have hm:=Qfe hi
 refine ⟨?_,Qfe hx⟩
 unfold Qje at hm
 cases hc:Qhd r==0
 · simp [hc] at hm
 · simpa using hc
theorem Ja1 {r:Request} {u:Int} {x:Item} (h:Qzv r u=some x):x.fM∈Qz6 r:=by
 obtain ⟨hc,hx⟩:=Q5d h
 have:=(Qrt (Qei hc).1).1 x hx
 simp only [Qxr,Bool.and_eq_true,Qco] at this
 unfold Qz6
 rw [show (Qhd r==0)=true by simp [hc],cond_true,List.mem_filter,Qc3]
 exact ⟨by omega,List.any_eq_true.2 ⟨x,hx,by simp⟩⟩
def Jh1 (gs:List (List Int)) (c:Int):Int:=match Qwj (λg=>g.contains c) gs with | some i=>(i:Int) | none=>-1
theorem Jdu {r:Request} {i:Nat} {g:List Int} (hi:(Qhr r)[i]? = some g) {c:Int} (hc:c∈g):Jh1 (Qhr r) c=i:=by
 unfold Jh1
 cases hf:Qwj (λg=>g.contains c) (Qhr r) with
 | none =>
  have:=Q3x hf g (List.mem_of_getElem? hi)
  simp [hc] at this
 | some j =>
  obtain ⟨h,hj,hh⟩:=Qtz hf
  have:=Qzr hi hj hc (by simpa using hh)
  simp [this]
theorem Jbc {r:Request} {c:Int} (hc:c∈Qz6 r):∃ (i:Nat) (g:List Int),(Qhr r)[i]? = some g∧c∈g∧Jh1 (Qhr r) c=i:=by
 have h1:=(Q6s r).mem_iff.2 hc
 obtain ⟨g,hg,hcg⟩:=List.mem_flatten.1 h1
 obtain ⟨i,hi⟩:=List.mem_iff_getElem?.1 hg
 exact ⟨i,g,hi,hcg,Jdu hi hcg⟩
end Go.Proofs.YtpcmapfabndggaaGreat
