/- Loops of the printed data-level functions, against any function by recursion on the list. Own lemmas; no program in sight. -/
import Derived.Test.YtcboeijpplllfaaGreatQ1
set_option linter.unusedSimpArgs false
set_option linter.unusedVariables false
namespace Go.Proofs.YtcboeijpplllfaaGreat
open Go
open Enc (rd ow)
open Arg (argv)
open Ret (retv)
open Wf (wf)
theorem ix_i {α:Type} {l:List α} {i:Nat} (h:i < l.length):ix l (i:Int) = some l[i]:=by rw [ix_nat,List.getElem?_eq_getElem h]
theorem w64_s (i:Nat) (h:i < 4611686018427387904):w64 ((i:Int) + 1) = ((i + 1:Nat):Int):=by rw [w64_id (by omega) (by omega)]; omega
theorem lpI {σ α β:Type} (l:List α) (L:Nat → σ → Int → Option β) (F:List α → σ → Option β) (I:List α → σ → Prop) (hl:l.length ≤ 1099511627776)
    (hs:∀ n s (i:Int) x xs,ix l i = some x → decide (i < (l.length:Int)) = true → I (x :: xs) s → (∀ s',I xs s' → L n s' (w64 (i + 1)) = F xs s') → L (n + 1) s i = F (x :: xs) s)
    (he:∀ n s (i:Int),decide (i < (l.length:Int)) = false → I [] s → L (n + 1) s i = F [] s):∀ n s,I l s → l.length < n → L n s 0 = F l s:=by
 have key:∀ (m i n:Nat) (s:σ),l.length - i = m → i ≤ l.length → m < n → I (l.drop i) s → L n s (i:Int) = F (l.drop i) s:=by
  intro m
  induction m with
  | zero =>
   intro i n s hm hi hn hI
   obtain ⟨n,rfl⟩:∃ k,n = k + 1:=⟨n - 1,by omega⟩
   have e:l.drop i = []:=List.drop_of_length_le (by omega)
   rw [e] at hI ⊢
   exact he n s i (by simp; omega) hI
  | succ m ih =>
   intro i n s hm hi hn hI
   obtain ⟨n,rfl⟩:∃ k,n = k + 1:=⟨n - 1,by omega⟩
   have hlt:i < l.length:=by omega
   rw [List.drop_eq_getElem_cons hlt] at hI ⊢
   refine hs n s i _ _ (ix_i hlt) (by simpa using hlt) hI fun s' hI'=>?_
   rw [w64_s i (by omega)]
   exact ih (i + 1) n s' (by omega) (by omega) (by omega) hI'
 intro n s hI hn
 have:=key l.length 0 n s (by omega) (by omega) hn (by simpa using hI)
 simpa using this
theorem lp {σ α β:Type} (l:List α) (L:Nat → σ → Int → Option β) (F:List α → σ → Option β) (hl:l.length ≤ 1099511627776)
    (hs:∀ n s (i:Int) x xs,ix l i = some x → decide (i < (l.length:Int)) = true → (∀ s',L n s' (w64 (i + 1)) = F xs s') → L (n + 1) s i = F (x :: xs) s)
    (he:∀ n s (i:Int),decide (i < (l.length:Int)) = false → L (n + 1) s i = F [] s):∀ n s,l.length < n → L n s 0 = F l s:=fun n s hn =>
 lpI l L F (fun _ _=>True) hl (fun n s i x xs hx hd _ ih=>hs n s i x xs hx hd fun s'=>ih s' trivial) (fun n s i hd _=>he n s i hd) n s trivial hn
def ints:Int → Nat → List Int
 | _,0=>[]
 | a,n + 1=>a :: ints (a + 1) n
theorem lpN {σ β:Type} (b:Int) (L:Nat → σ → Int → Option β) (F:List Int → σ → Option β) (hb:b ≤ 1099511627776)
    (hs:∀ n s (i:Int) xs,0 ≤ i → i < b → decide (i < b) = true → (∀ s',L n s' (w64 (i + 1)) = F xs s') → L (n + 1) s i = F (i :: xs) s)
    (he:∀ n s (i:Int),decide (i < b) = false → L (n + 1) s i = F [] s):∀ (m:Nat) n s (a:Int),0 ≤ a → (b - a).toNat = m → m < n → L n s a = F (ints a m) s:=by
 intro m
 induction m with
 | zero =>
  intro n s a ha hm hn
  obtain ⟨n,rfl⟩:∃ k,n = k + 1:=⟨n - 1,by omega⟩
  exact he n s a (by simp; omega)
 | succ m ih =>
  intro n s a ha hm hn
  obtain ⟨n,rfl⟩:∃ k,n = k + 1:=⟨n - 1,by omega⟩
  refine hs n s a _ ha (by omega) (by simp; omega) fun s'=>?_
  rw [w64_id (by omega) (by omega)]
  exact ih n s' (a + 1) (by omega) (by omega) (by omega)
def down:Nat → List Int
 | 0=>[]
 | n + 1=>(n:Int) :: down n
theorem ap1 {α:Type} {bytes:Nat} {xs ys:List α} (h:(xs.length + ys.length) * bytes ≤ 140737488355328):apnd bytes xs ys = some (xs ++ ys):=by
 unfold apnd; rw [if_pos h]
theorem sls_some {α:Type} {xs:List α} {lo hi:Int} (h:0 ≤ lo ∧ lo ≤ hi ∧ hi ≤ xs.length):sls xs lo hi = some ((xs.drop lo.toNat).take (hi.toNat - lo.toNat)):=by
 unfold sls; rw [if_pos h]
end Go.Proofs.YtcboeijpplllfaaGreat
