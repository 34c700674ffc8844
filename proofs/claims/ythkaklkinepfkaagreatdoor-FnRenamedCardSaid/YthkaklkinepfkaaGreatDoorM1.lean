/- own lemmas -/
import Derived.Test.YthkaklkinepfkaaGreatDoorS22
set_option linter.unusedSimpArgs false
set_option linter.unusedVariables false
namespace Go.Proofs.YthkaklkinepfkaaGreatDoor
open Go
open Enc (rd ow)
open Arg (argv)
open Ret (retv)
open Wf (wf)
def lx (k:Int → Int) (p q:Int):Prop:=k p < k q ∨ (k p = k q ∧ p < q)
theorem lx_trans {k:Int → Int} {p q r:Int} (h1:lx k p q) (h2:lx k q r):lx k p r:=by
 unfold lx at *; omega
theorem lx_asymm {k:Int → Int} {p q:Int} (h1:lx k p q) (h2:lx k q p):False:=by
 unfold lx at *; omega
theorem uniq_sorted {α:Type} {R:α → α → Prop} (has:∀ x y,R x y → R y x → False):∀ {a b:List α},a.Perm b → a.Pairwise R → b.Pairwise R → a = b
 | [],b,h,_,_=>(List.Perm.nil_eq h)
 | x :: a,[],h,_,_=>by have:=h.length_eq; simp at this
 | x :: a,y :: b,h,h1,h2=>by
  have hxy:x = y:=by
   have m1:x ∈ y :: b:=h.mem_iff.1 (by simp)
   have m2:y ∈ x :: a:=h.mem_iff.2 (by simp)
   rcases List.mem_cons.1 m1 with e | m1
   · exact e
   rcases List.mem_cons.1 m2 with e | m2
   · exact e.symm
   exact (has x y ((List.pairwise_cons.1 h1).1 y m2) ((List.pairwise_cons.1 h2).1 x m1)).elim
  subst hxy
  rw [uniq_sorted has (List.Perm.cons_inv h) (List.pairwise_cons.1 h1).2 (List.pairwise_cons.1 h2).2]
def mrg (k:Int → Int):List Int → List Int → List Int
 | [],b=>b
 | x :: a,[]=>x :: a
 | x :: a,y :: b=>if k y < k x then y :: mrg k (x :: a) b else x :: mrg k a (y :: b)
termination_by a b=>a.length + b.length
theorem mrg_nil (k:Int → Int) (a:List Int):mrg k a [] = a:=by cases a <;> simp [mrg]
theorem mrg_cons (k:Int → Int) (x y:Int) (a b:List Int):mrg k (x :: a) (y :: b) = if k y < k x then y :: mrg k (x :: a) b else x :: mrg k a (y :: b):=by rw [mrg]
theorem mrg_perm (k:Int → Int) (a b:List Int):(mrg k a b).Perm (a ++ b):=by
 induction a,b using mrg.induct k with
 | case1 b=>simp [mrg]
 | case2 x a=>simp [mrg]
 | case3 x a y b h ih =>
  rw [mrg_cons,if_pos h]
  exact (ih.cons y).trans (by simpa using (List.perm_middle (a:=y) (l₁:=x :: a) (l₂:=b)).symm)
 | case4 x a y b h ih =>
  rw [mrg_cons,if_neg h]
  exact ih.cons x
theorem mrg_sorted (k:Int → Int) (a b:List Int):a.Pairwise (lx k) → b.Pairwise (lx k) → (∀ p ∈ a,∀ q ∈ b,p < q) → (mrg k a b).Pairwise (lx k):=by
 induction a,b using mrg.induct k with
 | case1 b=>intro _ h _; simpa [mrg] using h
 | case2 x a=>intro h _ _; simpa [mrg] using h
 | case3 x a y b h ih =>
  intro ha hb hc
  rw [mrg_cons,if_pos h]
  refine List.pairwise_cons.2 ⟨fun z hz=>?_,ih ha (List.pairwise_cons.1 hb).2 (fun p hp q hq=>hc p hp q (by simp [hq]))⟩
  rcases List.mem_append.1 ((mrg_perm k _ _).mem_iff.1 hz) with hz | hz
  · rcases List.mem_cons.1 hz with e | hz
    · subst e; exact .inl h
    · have:=(List.pairwise_cons.1 ha).1 z hz
      unfold lx at *; omega
  · exact (List.pairwise_cons.1 hb).1 z hz
 | case4 x a y b h ih =>
  intro ha hb hc
  rw [mrg_cons,if_neg h]
  refine List.pairwise_cons.2 ⟨fun z hz=>?_,ih (List.pairwise_cons.1 ha).2 hb (fun p hp q hq=>hc p (by simp [hp]) q hq)⟩
  rcases List.mem_append.1 ((mrg_perm k _ _).mem_iff.1 hz) with hz | hz
  · exact (List.pairwise_cons.1 ha).1 z hz
  · have hxz:=hc x (by simp) z hz
    rcases List.mem_cons.1 hz with e | hz
    · subst e; unfold lx; omega
    · have:=(List.pairwise_cons.1 hb).1 z hz
      unfold lx at *; omega
def msr (k:Int → Int):Nat → List Int → List Int
 | 0,l=>l
 | n + 1,l=>if l.length < 2 then l else mrg k (msr k n (l.take (l.length / 2))) (msr k n (l.drop (l.length / 2)))
theorem msr_perm (k:Int → Int):∀ (n:Nat) (l:List Int),(msr k n l).Perm l
 | 0,l=>List.Perm.refl _
 | n + 1,l=>by
  unfold msr
  split
  · exact List.Perm.refl _
  · refine (mrg_perm k _ _).trans (((msr_perm k n _).append (msr_perm k n _)).trans ?_)
    rw [List.take_append_drop]
theorem msr_sorted (k:Int → Int):∀ (n:Nat) (l:List Int),l.length ≤ n → l.Pairwise (· < ·) → (msr k n l).Pairwise (lx k)
 | 0,l,h,_=>by
  have:l = []:=List.eq_nil_of_length_eq_zero (by omega)
  subst this
  exact List.Pairwise.nil
 | n + 1,l,h,hp=>by
  unfold msr
  split
  · rename_i h2
    match l,h2 with
    | [],_=>exact List.Pairwise.nil
    | [x],_=>simp
  · rename_i h2
    have hp':=hp
    rw [← List.take_append_drop (l.length / 2) l,List.pairwise_append] at hp'
    refine mrg_sorted k _ _ (msr_sorted k n _ (by rw [List.length_take]; omega) hp'.1) (msr_sorted k n _ (by rw [List.length_drop]; omega) hp'.2.1) fun p hpm q hqm=>?_
    exact hp'.2.2 p ((msr_perm k n _).mem_iff.1 hpm) q ((msr_perm k n _).mem_iff.1 hqm)
theorem ints_mem {a:Int} {n:Nat} {x:Int}:x ∈ ints a n ↔ a ≤ x ∧ x < a + n:=by
 induction n generalizing a with
 | zero=>simp [ints]
 | succ n ih=>simp only [ints,List.mem_cons,ih]; omega
theorem ints_len (a:Int) (n:Nat):(ints a n).length = n:=by
 induction n generalizing a with
 | zero=>rfl
 | succ n ih=>simp [ints,ih]
theorem ints_lt (a:Int) (n:Nat):(ints a n).Pairwise (· < ·):=by
 induction n generalizing a with
 | zero=>simp [ints]
 | succ n ih=>simp only [ints,List.pairwise_cons,ih,and_true]; intro x hx; have:=ints_mem.1 hx; omega
theorem ints_nodup (a:Int) (n:Nat):(ints a n).Nodup:=(ints_lt a n).imp (fun h=>by omega)
theorem ints_snoc (a:Int) (n:Nat):ints a (n + 1) = ints a n ++ [a + n]:=by
 induction n generalizing a with
 | zero=>simp [ints]
 | succ n ih=>rw [ints,ih (a + 1)]; simp only [ints,List.cons_append,List.cons.injEq,true_and]; congr 2; omega
def kf (keys:List Int) (p:Int):Int:=(ix keys p).getD 0
def srt (k:Int → Int) (n:Nat):List Int:=msr k n (ints 0 n)
theorem srt_perm (k:Int → Int) (n:Nat):(srt k n).Perm (ints 0 n):=msr_perm k n _
theorem srt_sorted (k:Int → Int) (n:Nat):(srt k n).Pairwise (lx k):=msr_sorted k n _ (by rw [ints_len]; omega) (ints_lt 0 n)
theorem srt_uniq {k:Int → Int} {n:Nat} {l:List Int} (h:l.Perm (ints 0 n)) (hs:l.Pairwise (lx k)):l = srt k n :=
 uniq_sorted (fun _ _=>lx_asymm) (h.trans (srt_perm k n).symm) hs (srt_sorted k n)
theorem srt_len (k:Int → Int) (n:Nat):(srt k n).length = n:=by rw [(srt_perm k n).length_eq,ints_len]
theorem srt_mem {k:Int → Int} {n:Nat} {x:Int}:x ∈ srt k n ↔ 0 ≤ x ∧ x < n:=by rw [(srt_perm k n).mem_iff,ints_mem]; omega
theorem le_uniq {a b:List Int} (h:a.Perm b) (h1:a.Pairwise (· ≤ ·)) (h2:b.Pairwise (· ≤ ·)):a = b:=by
 induction a generalizing b with
 | nil=>exact List.Perm.nil_eq h
 | cons x a ih =>
  match b,h,h2 with
  | [],h,_=>have:=h.length_eq; simp at this
  | y :: b,h,h2 =>
   have hxy:x = y:=by
    have m1:x ∈ y :: b:=h.mem_iff.1 (by simp)
    have m2:y ∈ x :: a:=h.mem_iff.2 (by simp)
    have c1:y ≤ x:=by
     rcases List.mem_cons.1 m1 with e | m1
     · omega
     · exact (List.pairwise_cons.1 h2).1 x m1
    have c2:x ≤ y:=by
     rcases List.mem_cons.1 m2 with e | m2
     · omega
     · exact (List.pairwise_cons.1 h1).1 y m2
    omega
   subst hxy
   rw [ih (List.Perm.cons_inv h) (List.pairwise_cons.1 h1).2 (List.pairwise_cons.1 h2).2]
theorem mergeSort_le (l:List Int):(l.mergeSort fun x y=>decide (x ≤ y)).Pairwise (· ≤ ·):=by
 have:=List.pairwise_mergeSort (le:=fun x y:Int=>decide (x ≤ y)) (fun a b c h1 h2=>by simp at *; omega) (fun a b=>by simp; omega) l
 exact this.imp (fun h=>by simpa using h)
theorem sid_sorted (a b c:Int):(sid a b c).1 ≤ (sid a b c).2.1 ∧ (sid a b c).2.1 ≤ (sid a b c).2.2:=by
 unfold sid
 simp only
 split <;> split <;> split <;> (try split) <;> (try split) <;> omega
theorem perm3 {a b c x y z:Int} (h:[a,b,c].Perm [x,y,z]) (h1:x ≤ y) (h2:y ≤ z):sid a b c = (x,y,z):=by
 have m1:=h.mem_iff (a:=x)
 have m2:=h.mem_iff (a:=z)
 have m3:=h.mem_iff (a:=a)
 have m4:=h.mem_iff (a:=b)
 have m5:=h.mem_iff (a:=c)
 have hs:sumI [a,b,c] = sumI [x,y,z]:=by
  have key:∀ {l l':List Int},l.Perm l' → sumI l = sumI l':=by
   intro l l' hp
   induction hp with
   | nil=>rfl
   | cons x _ ih=>simp [ih]
   | swap x y l=>simp; omega
   | trans _ _ ih1 ih2=>rw [ih1,ih2]
  exact key h
 simp at m1 m2 m3 m4 m5 hs
 unfold sid
 simp only [Prod.mk.injEq]
 refine ⟨?_,?_,?_⟩ <;> (split <;> split <;> (try split) <;> (try split) <;> omega)
end Go.Proofs.YthkaklkinepfkaaGreatDoor
set_option linter.unusedSimpArgs false
set_option linter.unusedVariables false
namespace Go.Proofs.YthkaklkinepfkaaGreatDoor
open Go
open Enc (rd ow)
open Arg (argv)
open Ret (retv)
open Wf (wf)
theorem lt_ext {a b:List Int} (h1:a.Pairwise (· < ·)) (h2:b.Pairwise (· < ·)) (h:∀ x,x ∈ a ↔ x ∈ b):a = b :=
 uniq_sorted (R:=(· < ·)) (fun x y h1 h2=>by omega) ((List.perm_ext_iff_of_nodup (h1.imp fun h=>by omega) (h2.imp fun h=>by omega)).2 h) h1 h2
theorem compact_sorted (l:List Int) (hs:l.Pairwise (· ≤ ·)):(Lib.compact l).Pairwise (· < ·) ∧ ∀ x,x ∈ Lib.compact l ↔ x ∈ l:=by
 have hget:∀ j (h:j < l.length),l.toArray[j]! = l[j]:=fun j h=>by simp [h]
 have key:∀ m,m ≤ l.length → (Lib.compactUpTo l.toArray m).Pairwise (· < ·) ∧ ∀ x,x ∈ Lib.compactUpTo l.toArray m ↔ ∃ j,j < m ∧ l[j]? = some x:=by
  intro m
  induction m with
  | zero=>intro _; simp [Lib.compactUpTo]
  | succ m ih =>
   intro hm
   obtain ⟨h1,h2⟩:=ih (by omega)
   have hmg:=hget m (by omega)
   rw [Lib.compactUpTo_succ]
   have hmem:∀ x,(∃ j,j < m + 1 ∧ l[j]? = some x) ↔ (∃ j,j < m ∧ l[j]? = some x) ∨ x = l[m]:=by
    intro x
    constructor
    · rintro ⟨j,hj,hx⟩
      by_cases e:j = m
      · subst e
        rw [List.getElem?_eq_getElem (by omega)] at hx
        exact .inr (Option.some.inj hx).symm
      · exact .inl ⟨j,by omega,hx⟩
    · rintro (⟨j,hj,hx⟩ | e)
      · exact ⟨j,by omega,hx⟩
      · exact ⟨m,by omega,by rw [e,List.getElem?_eq_getElem]⟩
   by_cases hk:m = 0 ∨ l.toArray[m]! ≠ l.toArray[m - 1]!
   · have hk':Lib.keeps l.toArray m = true:=by simpa [Lib.keeps] using hk
     rw [hk',if_pos rfl,hmg]
     refine ⟨List.pairwise_append.2 ⟨h1,by simp,?_⟩,?_⟩
     · intro x hx y hy
       simp only [List.mem_singleton] at hy
       subst hy
       obtain ⟨j,hj,hxj⟩:=(h2 x).1 hx
       have hm0:m ≠ 0:=by omega
       have hne:l[m] ≠ l[m - 1]:=by
        rcases hk with hk | hk
        · exact absurd hk hm0
        · rw [hget m (by omega),hget (m - 1) (by omega)] at hk; exact hk
       have hx':x = l[j]:=by rw [List.getElem?_eq_getElem (by omega)] at hxj; exact (Option.some.inj hxj).symm
       have hp:=List.pairwise_iff_getElem.1 hs
       have c1:l[m - 1] ≤ l[m]:=hp (m - 1) m (by omega) (by omega) (by omega)
       have c2:l[j] ≤ l[m - 1]:=by
        by_cases e:j = m - 1
        · subst e; exact Int.le_refl _
        · exact hp j (m - 1) (by omega) (by omega) (by omega)
       omega
     · intro x
       rw [List.mem_append,h2,hmem]
       simp
   · have hk':Lib.keeps l.toArray m = false:=by simpa [Lib.keeps] using hk
     rw [hk']
     simp only [Bool.false_eq_true,if_false,List.append_nil]
     refine ⟨h1,fun x=>?_⟩
     rw [h2,hmem]
     have hm0:m ≠ 0:=fun e=>hk (.inl e)
     have he:l[m] = l[m - 1]:=by
      have:¬ (l.toArray[m]! ≠ l.toArray[m - 1]!):=fun h=>hk (.inr h)
      rw [hget m (by omega),hget (m - 1) (by omega)] at this
      exact Classical.not_not.1 this
     constructor
     · exact .inl
     · rintro (h | h)
       · exact h
       · exact ⟨m - 1,by omega,by rw [List.getElem?_eq_getElem (by omega),h,he]⟩
 obtain ⟨h1,h2⟩:=key l.length (Nat.le_refl _)
 refine ⟨h1,fun x=>?_⟩
 have:=h2 x
 unfold Lib.compact
 rw [this,List.mem_iff_getElem?]
 constructor
 · rintro ⟨j,_,h⟩; exact ⟨j,h⟩
 · rintro ⟨j,h⟩; exact ⟨j,(List.getElem?_eq_some_iff.1 h).1,h⟩
def mutB (p:List Pair) (a b:Int):Bool:=besB p a b && besB p b a
def prsM (r:Request):List Int:=bif clsM r == 0 then (ints 0 4).filter fun c=>r.fItems.any fun x=>x.fClass == c else []
def fstI {α:Type} (g:α → Bool):List α → Option Nat
 | []=>none
 | x :: xs=>bif g x then some 0 else (fstI g xs).map (· + 1)
def putG (p:List Pair) (out:List (List Int)) (c:Int):List (List Int) :=
 match fstI (fun g=>g.all (mutB p c)) out with
 | some i=>out.set i ((out[i]?.getD []) ++ [c])
 | none=>out ++ [[c]]
def grpM (r:Request):List (List Int):=(prsM r).foldl (putG r.fPairs) []
def ofG (r:Request) (g:List Int):Int → List Int → List Int
 | _,[]=>[]
 | u,i :: us=>bif (match ix r.fItems i with | some x=>g.contains x.fClass | none=>false) then u :: ofG r g (u + 1) us else ofG r g (u + 1) us
def uofM (r:Request) (k:Int):List Int:=match ix (grpM r) k with | some g=>ofG r g 0 (untM r) | none=>[]
def grmM (r:Request) (us:List Int):Int:=sumI ((itsM r us).map (·.fGram))
theorem prsM_sorted (r:Request):(prsM r).Pairwise (· < ·):=by
 unfold prsM
 cases clsM r == 0
 · exact List.Pairwise.nil
 · rw [cond_true]; exact (ints_lt 0 4).filter _
theorem prsM_mem {r:Request} {c:Int} (h:c ∈ prsM r):0 ≤ c ∧ c < 4:=by
 unfold prsM at h
 cases hc:clsM r == 0
 · simp [hc] at h
 · simp only [hc,cond_true] at h
   have:=ints_mem.1 (List.mem_filter.1 h).1
   omega
theorem prsM_len (r:Request):(prsM r).length ≤ 4:=by
 unfold prsM
 cases clsM r == 0
 · simp
 · exact Nat.le_trans (List.length_filter_le _ _) (by simp [ints])
theorem fstI_lt {α:Type} {g:α → Bool}:∀ {l:List α} {i:Nat},fstI g l = some i → ∃ x,l[i]? = some x ∧ g x = true
 | [],i,h=>by simp [fstI] at h
 | x :: xs,i,h=>by
  unfold fstI at h
  cases hx:g x
  · simp only [hx,cond_false,Option.map_eq_some_iff] at h
    obtain ⟨j,hj,rfl⟩:=h
    simpa using fstI_lt hj
  · simp only [hx,cond_true,Option.some.injEq] at h
    subst h
    exact ⟨x,rfl,hx⟩
def okG (n:Nat) (out:List (List Int)):Prop:=out.length ≤ n ∧ ∀ g ∈ out,g.length ≤ n
theorem putG_ok {p:List Pair} {out:List (List Int)} {n:Nat} (c:Int) (h:okG n out):okG (n + 1) (putG p out c):=by
 obtain ⟨h1,h2⟩:=h
 unfold putG
 split
 · rename_i i hi
   obtain ⟨x,hx,_⟩:=fstI_lt hi
   refine ⟨by simp; omega,fun g hg=>?_⟩
   rcases List.mem_or_eq_of_mem_set hg with hg | hg
   · have:=h2 g hg; omega
   · subst hg
     rw [hx]
     have:=h2 x (List.mem_of_getElem? hx)
     simp; omega
 · refine ⟨by simp; omega,fun g hg=>?_⟩
   rcases List.mem_append.1 hg with hg | hg
   · have:=h2 g hg; omega
   · simp at hg; subst hg; simp
theorem foldG_ok {p:List Pair}:∀ (l:List Int) {out:List (List Int)} {n:Nat},okG n out → okG (n + l.length) (l.foldl (putG p) out)
 | [],_,_,h=>h
 | c :: l,out,n,h=>by
  have:=foldG_ok (p:=p) l (putG_ok (p:=p) c h)
  simp only [List.foldl_cons,List.length_cons]
  rw [show n + (l.length + 1) = n + 1 + l.length by omega]
  exact this
theorem grpM_ok (r:Request):okG 4 (grpM r):=by
 have h:=foldG_ok (p:=r.fPairs) (prsM r) (out:=[]) (n:=0) ⟨by simp,by simp⟩
 have hl:=prsM_len r
 unfold okG at h
 exact ⟨by have:=h.1; unfold grpM; omega,fun g hg=>by have:=h.2 g hg; omega⟩
theorem ofG_len (r:Request) (g:List Int):∀ (us:List Int) (u:Int),(ofG r g u us).length ≤ us.length
 | [],_=>by simp [ofG]
 | i :: us,u=>by
  have:=ofG_len r g us (u + 1)
  unfold ofG
  generalize (match ix r.fItems i with | some x=>g.contains x.fClass | none=>false) = b
  cases b <;> simp <;> omega
theorem uofM_len (r:Request) (k:Int):(uofM r k).length ≤ 12:=by
 have:=untM_len r
 unfold uofM
 split
 · have:=ofG_len r ‹_› (untM r) 0; omega
 · simp
theorem grm_mem {r:Request} {us:List Int} {x:Item} (h:x ∈ itsM r us):0 ≤ x.fGram ∧ x.fGram ≤ 100000:=by
 unfold itsM at h
 obtain ⟨u,_,hu⟩:=List.mem_filterMap.1 h
 unfold itmM at hu
 obtain ⟨i,hi,hx⟩:=obind_some hu
 have hm:=ix_mem hi
 unfold untM at hm
 cases hc:clsM r == 0
 · simp [hc] at hm
 · have:=(bou_items (clsM_zero (by simpa using hc)).1).1 x (ix_mem hx)
   simp only [itmB,Bool.and_eq_true,inb_iff] at this
   omega
theorem grmM_bd (r:Request) (us:List Int):0 ≤ grmM r us ∧ grmM r us ≤ 100000 * us.length:=by
 refine ⟨sumI_nn _ _ fun x hx=>(grm_mem hx).1,?_⟩
 have h1:=sumI_le (fun x:Item=>x.fGram) (itsM r us) 100000 fun x hx=>(grm_mem hx).2
 have h2:=itsM_len r us
 unfold grmM
 omega
end Go.Proofs.YthkaklkinepfkaaGreatDoor
set_option linter.unusedSimpArgs false
set_option linter.unusedVariables false
namespace Go.Proofs.YthkaklkinepfkaaGreatDoor
open Go
open Enc (rd ow)
open Arg (argv)
open Ret (retv)
open Wf (wf)
theorem itm_cls {r:Request} {u:Int} {x:Item} (h:itmM r u = some x):clsM r = 0 ∧ x ∈ r.fItems:=by
 unfold itmM at h
 obtain ⟨i,hi,hx⟩:=obind_some h
 have hm:=ix_mem hi
 refine ⟨?_,ix_mem hx⟩
 unfold untM at hm
 cases hc:clsM r == 0
 · simp [hc] at hm
 · simpa using hc
end Go.Proofs.YthkaklkinepfkaaGreatDoor
