/- Stable sorting by keys, as plain functions; what is sorted twice is the same. Own text; no program in sight. -/
import Derived.Test.YtcboeijpplllfaaGreatM0
set_option linter.unusedSimpArgs false
set_option linter.unusedVariables false
namespace Go.Proofs.YtcboeijpplllfaaGreat
open Go
open Enc (rd ow)
open Arg (argv)
open Ret (retv)
open Wf (wf)
def lx (k:Int → Int) (p q:Int):Prop:=k p < k q ∨ (k p = k q ∧ p < q)
theorem lx_asymm {k:Int → Int} {p q:Int} (h1:lx k p q) (h2:lx k q p):False:=by
 unfold lx at *; omega
theorem uniq_sorted {α:Type} {R:α → α → Prop} (has:∀ x y,R x y → R y x → False):∀ {a b:List α},a.Perm b → a.Pairwise R → b.Pairwise R → a = b
 | [],b,h,_,_=>(List.Perm.nil_eq h)
 | x :: a,[],h,_,_=>by have:=h.length_eq; simp at this
 | x :: a,y :: b,h,h1,h2=>by
  have hxy:x = y:=by
   have m1:x ∈ y :: b:=h.mem_iff.1 (by simp)
   have m2:y ∈ x :: a:=h.mem_iff.2 (by simp)
   rcases List.mem_cons.1 m1 with e | m1
   · exact e
   rcases List.mem_cons.1 m2 with e | m2
   · exact e.symm
   exact (has x y ((List.pairwise_cons.1 h1).1 y m2) ((List.pairwise_cons.1 h2).1 x m1)).elim
  subst hxy
  rw [uniq_sorted has (List.Perm.cons_inv h) (List.pairwise_cons.1 h1).2 (List.pairwise_cons.1 h2).2]
def mrg (k:Int → Int):List Int → List Int → List Int
 | [],b=>b
 | x :: a,[]=>x :: a
 | x :: a,y :: b=>if k y < k x then y :: mrg k (x :: a) b else x :: mrg k a (y :: b)
termination_by a b=>a.length + b.length
theorem mrg_nil (k:Int → Int) (a:List Int):mrg k a [] = a:=by cases a <;> simp [mrg]
theorem mrg_cons (k:Int → Int) (x y:Int) (a b:List Int):mrg k (x :: a) (y :: b) = if k y < k x then y :: mrg k (x :: a) b else x :: mrg k a (y :: b):=by rw [mrg]
theorem mrg_perm (k:Int → Int) (a b:List Int):(mrg k a b).Perm (a ++ b):=by
 induction a,b using mrg.induct k with
 | case1 b=>simp [mrg]
 | case2 x a=>simp [mrg]
 | case3 x a y b h ih =>
  rw [mrg_cons,if_pos h]
  exact (ih.cons y).trans (by simpa using (List.perm_middle (a:=y) (l₁:=x :: a) (l₂:=b)).symm)
 | case4 x a y b h ih =>
  rw [mrg_cons,if_neg h]
  exact ih.cons x
theorem mrg_sorted (k:Int → Int) (a b:List Int):a.Pairwise (lx k) → b.Pairwise (lx k) → (∀ p ∈ a,∀ q ∈ b,p < q) → (mrg k a b).Pairwise (lx k):=by
 induction a,b using mrg.induct k with
 | case1 b=>intro _ h _; simpa [mrg] using h
 | case2 x a=>intro h _ _; simpa [mrg] using h
 | case3 x a y b h ih =>
  intro ha hb hc
  rw [mrg_cons,if_pos h]
  refine List.pairwise_cons.2 ⟨fun z hz=>?_,ih ha (List.pairwise_cons.1 hb).2 (fun p hp q hq=>hc p hp q (by simp [hq]))⟩
  rcases List.mem_append.1 ((mrg_perm k _ _).mem_iff.1 hz) with hz | hz
  · rcases List.mem_cons.1 hz with e | hz
    · subst e; exact .inl h
    · have:=(List.pairwise_cons.1 ha).1 z hz
      unfold lx at *; omega
  · exact (List.pairwise_cons.1 hb).1 z hz
 | case4 x a y b h ih =>
  intro ha hb hc
  rw [mrg_cons,if_neg h]
  refine List.pairwise_cons.2 ⟨fun z hz=>?_,ih (List.pairwise_cons.1 ha).2 hb (fun p hp q hq=>hc p (by simp [hp]) q hq)⟩
  rcases List.mem_append.1 ((mrg_perm k _ _).mem_iff.1 hz) with hz | hz
  · exact (List.pairwise_cons.1 ha).1 z hz
  · have hxz:=hc x (by simp) z hz
    rcases List.mem_cons.1 hz with e | hz
    · subst e; unfold lx; omega
    · have:=(List.pairwise_cons.1 hb).1 z hz
      unfold lx at *; omega
def msr (k:Int → Int):Nat → List Int → List Int
 | 0,l=>l
 | n + 1,l=>if l.length < 2 then l else mrg k (msr k n (l.take (l.length / 2))) (msr k n (l.drop (l.length / 2)))
theorem msr_perm (k:Int → Int):∀ (n:Nat) (l:List Int),(msr k n l).Perm l
 | 0,l=>List.Perm.refl _
 | n + 1,l=>by
  unfold msr
  split
  · exact List.Perm.refl _
  · refine (mrg_perm k _ _).trans (((msr_perm k n _).append (msr_perm k n _)).trans ?_)
    rw [List.take_append_drop]
theorem msr_sorted (k:Int → Int):∀ (n:Nat) (l:List Int),l.length ≤ n → l.Pairwise (· < ·) → (msr k n l).Pairwise (lx k)
 | 0,l,h,_=>by
  have:l = []:=List.eq_nil_of_length_eq_zero (by omega)
  subst this
  exact List.Pairwise.nil
 | n + 1,l,h,hp=>by
  unfold msr
  split
  · rename_i h2
    match l,h2 with
    | [],_=>exact List.Pairwise.nil
    | [x],_=>simp
  · rename_i h2
    have hp':=hp
    rw [← List.take_append_drop (l.length / 2) l,List.pairwise_append] at hp'
    refine mrg_sorted k _ _ (msr_sorted k n _ (by rw [List.length_take]; omega) hp'.1) (msr_sorted k n _ (by rw [List.length_drop]; omega) hp'.2.1) fun p hpm q hqm=>?_
    exact hp'.2.2 p ((msr_perm k n _).mem_iff.1 hpm) q ((msr_perm k n _).mem_iff.1 hqm)
theorem ints_mem {a:Int} {n:Nat} {x:Int}:x ∈ ints a n ↔ a ≤ x ∧ x < a + n:=by
 induction n generalizing a with
 | zero=>simp [ints]
 | succ n ih=>simp only [ints,List.mem_cons,ih]; omega
theorem ints_len (a:Int) (n:Nat):(ints a n).length = n:=by
 induction n generalizing a with
 | zero=>rfl
 | succ n ih=>simp [ints,ih]
theorem ints_lt (a:Int) (n:Nat):(ints a n).Pairwise (· < ·):=by
 induction n generalizing a with
 | zero=>simp [ints]
 | succ n ih=>simp only [ints,List.pairwise_cons,ih,and_true]; intro x hx; have:=ints_mem.1 hx; omega
theorem ints_snoc (a:Int) (n:Nat):ints a (n + 1) = ints a n ++ [a + n]:=by
 induction n generalizing a with
 | zero=>simp [ints]
 | succ n ih=>rw [ints,ih (a + 1)]; simp only [ints,List.cons_append,List.cons.injEq,true_and]; congr 2; omega
def kf (keys:List Int) (p:Int):Int:=(ix keys p).getD 0
def srt (k:Int → Int) (n:Nat):List Int:=msr k n (ints 0 n)
theorem srt_perm (k:Int → Int) (n:Nat):(srt k n).Perm (ints 0 n):=msr_perm k n _
theorem srt_sorted (k:Int → Int) (n:Nat):(srt k n).Pairwise (lx k):=msr_sorted k n _ (by rw [ints_len]; omega) (ints_lt 0 n)
theorem srt_uniq {k:Int → Int} {n:Nat} {l:List Int} (h:l.Perm (ints 0 n)) (hs:l.Pairwise (lx k)):l = srt k n :=
 uniq_sorted (fun _ _=>lx_asymm) (h.trans (srt_perm k n).symm) hs (srt_sorted k n)
theorem srt_len (k:Int → Int) (n:Nat):(srt k n).length = n:=by rw [(srt_perm k n).length_eq,ints_len]
theorem mergeSort_le (l:List Int):(l.mergeSort fun x y=>decide (x ≤ y)).Pairwise (· ≤ ·):=by
 have:=List.pairwise_mergeSort (le:=fun x y:Int=>decide (x ≤ y)) (fun a b c h1 h2=>by simp at *; omega) (fun a b=>by simp; omega) l
 exact this.imp (fun h=>by simpa using h)
theorem perm3 {a b c x y z:Int} (h:[a,b,c].Perm [x,y,z]) (h1:x ≤ y) (h2:y ≤ z):sid a b c = (x,y,z):=by
 have m1:=h.mem_iff (a:=x)
 have m2:=h.mem_iff (a:=z)
 have m3:=h.mem_iff (a:=a)
 have m4:=h.mem_iff (a:=b)
 have m5:=h.mem_iff (a:=c)
 have hs:sumI [a,b,c] = sumI [x,y,z]:=by
  have key:∀ {l l':List Int},l.Perm l' → sumI l = sumI l':=by
   intro l l' hp
   induction hp with
   | nil=>rfl
   | cons x _ ih=>simp [ih]
   | swap x y l=>simp; omega
   | trans _ _ ih1 ih2=>rw [ih1,ih2]
  exact key h
 simp at m1 m2 m3 m4 m5 hs
 unfold sid
 simp only [Prod.mk.injEq]
 refine ⟨?_,?_,?_⟩ <;> (split <;> split <;> (try split) <;> (try split) <;> omega)
end Go.Proofs.YtcboeijpplllfaaGreat
