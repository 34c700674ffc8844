/- Plain lemmas on the combinators that the printed data-level functions are made of. Own lemmas; no program in sight. -/
import Derived.Test.YtfhmhbcnijlfaaaS7
namespace Go.Proofs.Ytfhmhbcnijlfaaa
open Go
open Enc (rd ow)
open Arg (argv)
open Ret (retv)
open Wf (wf)

@[simp] theorem ob_some {α β : Type} (x : α) (k : α → Option β) : obind (some x) k = k x := rfl
@[simp] theorem ob_none {α β : Type} (k : α → Option β) : obind none k = none := rfl
theorem ob_of {α β : Type} {m : Option α} {x : α} {k : α → Option β} (h : m = some x) : obind m k = k x := by rw [h]; rfl

theorem w64_id {n : Int} (h1 : -9223372036854775808 ≤ n) (h2 : n ≤ 9223372036854775807) : w64 n = n := by
  simp only [w64, IntKind.wrap_i64]; omega

theorem ix_nat {α : Type} (l : List α) (i : Nat) : ix l (i : Int) = l[i]? := by simp [ix]
theorem ix_at {α : Type} {l : List α} {i : Nat} {x : α} (h : l[i]? = some x) : ix l (i : Int) = some x := by rw [ix_nat, h]

theorem mk_some {α : Type} {bytes : Nat} {z : α} {n : Nat} (h : bytes * n ≤ 140737488355328) : mk bytes z (n : Int) = some (List.replicate n z) := by
  unfold mk
  have h' : (bytes : Int) * (n : Int) ≤ 140737488355328 := by rw [← Int.natCast_mul]; omega
  rw [if_pos ⟨Int.natCast_nonneg n, h'⟩, Int.toNat_natCast]

theorem bif_true {α : Type} {c : Bool} (h : c = true) (a b : α) : (bif c then a else b) = a := by rw [h]; rfl
theorem bif_false {α : Type} {c : Bool} (h : c = false) (a b : α) : (bif c then a else b) = b := by rw [h]; rfl

/-- a 'for range' loop over a list, with exits -/
def runE {σ α β : Type} (step : σ → α → Except (Option β) σ) (fin : σ → Option β) : List α → σ → Option β
  | [], s => fin s
  | x :: xs, s => match step s x with
    | .error r => r
    | .ok s' => runE step fin xs s'

theorem runE_ok {σ α β : Type} {step : σ → α → σ} {fin : σ → Option β} : ∀ (l : List α) (s : σ), runE (fun s x => .ok (step s x)) fin l s = fin (l.foldl step s)
  | [], _ => rfl
  | x :: xs, s => by simp only [runE, List.foldl_cons]; exact runE_ok xs _

theorem loopE {σ α β : Type} (l : List α) (L : Nat → σ → Int → Option β) (step : σ → α → Except (Option β) σ) (fin : σ → Option β)
    (hs : ∀ n s (i : Nat) x, l[i]? = some x → i < l.length → L (n + 1) s (i : Int) = match step s x with | .error r => r | .ok s' => L n s' ((i + 1 : Nat) : Int))
    (he : ∀ n s, L (n + 1) s (l.length : Int) = fin s) : ∀ n s, l.length < n → L n s 0 = runE step fin l s := by
  have key : ∀ (m : Nat) (i : Nat) (n : Nat) (s : σ), l.length - i = m → i ≤ l.length → m < n → L n s (i : Int) = runE step fin (l.drop i) s := by
    intro m
    induction m with
    | zero =>
      intro i n s hm hi hn
      obtain ⟨n, rfl⟩ : ∃ k, n = k + 1 := ⟨n - 1, by omega⟩
      have : i = l.length := by omega
      subst this
      rw [he, List.drop_length]; rfl
    | succ m ih =>
      intro i n s hm hi hn
      obtain ⟨n, rfl⟩ : ∃ k, n = k + 1 := ⟨n - 1, by omega⟩
      have hlt : i < l.length := by omega
      rw [hs n s i l[i] (List.getElem?_eq_getElem hlt) hlt, List.drop_eq_getElem_cons hlt]
      simp only [runE]
      cases step s l[i] with
      | error r => rfl
      | ok s' => exact ih (i + 1) n s' (by omega) (by omega) (by omega)
  intro n s hn
  have := key l.length 0 n s (by omega) (by omega) hn
  simpa using this

theorem loopF {σ α β : Type} (l : List α) (L : Nat → σ → Int → Option β) (step : σ → α → σ) (fin : σ → Option β)
    (hs : ∀ n s (i : Nat) x, l[i]? = some x → i < l.length → L (n + 1) s (i : Int) = L n (step s x) ((i + 1 : Nat) : Int))
    (he : ∀ n s, L (n + 1) s (l.length : Int) = fin s) : ∀ n s, l.length < n → L n s 0 = fin (l.foldl step s) := by
  intro n s hn
  rw [loopE l L (fun s x => .ok (step s x)) fin hs he n s hn, runE_ok]

/-- 'for i := range out { out[i] = f(a[i]) }' -/
theorem loopM {α γ β : Type} (l : List α) (z : γ) (L : Nat → List γ → Int → Option β) (f : α → γ) (fin : List γ → Option β)
    (hs : ∀ n out (i : Nat) x, l[i]? = some x → i < l.length → out.length = l.length → L (n + 1) out (i : Int) = L n (out.set i (f x)) ((i + 1 : Nat) : Int))
    (he : ∀ n out, L (n + 1) out (l.length : Int) = fin out) : ∀ n, l.length < n → L n (List.replicate l.length z) 0 = fin (l.map f) := by
  have key : ∀ (m : Nat) (i : Nat) (n : Nat), l.length - i = m → i ≤ l.length → m < n → L n ((l.take i).map f ++ List.replicate (l.length - i) z) (i : Int) = fin (l.map f) := by
    intro m
    induction m with
    | zero =>
      intro i n hm hi hn
      obtain ⟨n, rfl⟩ : ∃ k, n = k + 1 := ⟨n - 1, by omega⟩
      have : i = l.length := by omega
      subst this
      rw [he]; simp
    | succ m ih =>
      intro i n hm hi hn
      obtain ⟨n, rfl⟩ : ∃ k, n = k + 1 := ⟨n - 1, by omega⟩
      have hlt : i < l.length := by omega
      rw [hs n _ i l[i] (List.getElem?_eq_getElem hlt) hlt (by simp; omega)]
      rw [← ih (i + 1) n (by omega) (by omega) (by omega)]
      congr 1
      rw [List.take_succ_eq_append_getElem hlt, List.map_append]
      have e : List.replicate (l.length - i) z = z :: List.replicate (l.length - (i + 1)) z := by
        rw [show l.length - i = (l.length - (i + 1)) + 1 by omega, List.replicate_succ]
      have hl : (List.map f (List.take i l)).length = i := by rw [List.length_map, List.length_take]; omega
      rw [e, List.set_append_right _ _ (by omega), hl, Nat.sub_self]
      simp
  intro n hn
  have := key l.length 0 n (by omega) (by omega) hn
  simpa using this

end Go.Proofs.Ytfhmhbcnijlfaaa
