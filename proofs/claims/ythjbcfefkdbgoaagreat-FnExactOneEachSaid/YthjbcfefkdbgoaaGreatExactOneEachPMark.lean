/- What is marked: orders, lists of numbers, lists of lists. -/
import Derived.Test.YthjbcfefkdbgoaaGreatExactOneEachW6
import Derived.Test.YthjbcfefkdbgoaaGreatM2
import Derived.Test.YthjbcfefkdbgoaaGreatExactOneEachPReq
namespace Go.Proofs.YthjbcfefkdbgoaaGreat
open Go

theorem ix_setx_eq {α : Type} (xs : List α) (n : Int) (y : α) : ix (setx xs n y) n = (ix xs n).map fun _ => y := by
  unfold ix setx
  split
  · by_cases h : n.toNat < xs.length
    · simp [h]
    · rw [List.getElem?_eq_none (by simp; omega), List.getElem?_eq_none (by omega)]; rfl
  · rfl
theorem setx_len {α : Type} (xs : List α) (n : Int) (y : α) : (setx xs n y).length = xs.length := by simp [setx]
theorem mark_loop {α : Type} (c : Nat) (hc : c ≤ 10) (L : Nat → List α → Int → Int → Option (Int × List α))
    (hs : ∀ n x kv (i : Int) y, ix x i = some y → decide (i < (x.length : Int)) = true → 0 ≤ kv → kv ≤ 1099511627776 → ∃ x' : List α, x'.length = x.length ∧ L (n + 1) x kv i = L n x' (kv + c) (w64 (i + 1)))
    (he : ∀ n x kv (i : Int), decide (i < (x.length : Int)) = false → L (n + 1) x kv i = some (kv, x)) (l : List α) (kv : Int) (n : Nat) (hl : l.length ≤ 1048576) (h0 : 0 ≤ kv) (h1 : kv ≤ 68719476736) (hn : l.length < n) :
    ∃ x', L n l kv 0 = some (kv + c * l.length, x') := by
  have key : ∀ (m i n : Nat) (x : List α) (kv : Int), x.length = l.length → l.length - i = m → i ≤ l.length → m < n → 0 ≤ kv → kv + c * m ≤ 1099511627776 → ∃ x', L n x kv (i : Int) = some (kv + c * m, x') := by
    intro m
    induction m with
    | zero =>
      intro i n x kv hx hm hi hn h0 h1
      obtain ⟨n, rfl⟩ : ∃ k, n = k + 1 := ⟨n - 1, by omega⟩
      exact ⟨x, by rw [he n x kv i (by simp; omega)]; simp⟩
    | succ m ih =>
      intro i n x kv hx hm hi hn h0 h1
      obtain ⟨n, rfl⟩ : ∃ k, n = k + 1 := ⟨n - 1, by omega⟩
      have hlt : i < x.length := by omega
      have e : (c : Int) * ((m + 1 : Nat) : Int) = c * m + c := by rw [show ((m + 1 : Nat) : Int) = (m : Int) + 1 by omega, Int.mul_add]; omega
      have hcm : 0 ≤ (c : Int) * m := Int.mul_nonneg (by omega) (by omega)
      obtain ⟨x', hx', h⟩ := hs n x kv i x[i] (ix_i hlt) (by simpa using hlt) h0 (by omega)
      rw [h, w64_s i (by omega)]
      obtain ⟨z, hz⟩ := ih (i + 1) n x' (kv + c) (by omega) (by omega) (by omega) (by omega) (by omega) (by omega)
      exact ⟨z, by rw [hz, e]; congr 2; omega⟩
  have hb : (c : Int) * (l.length : Int) ≤ 10 * 1048576 := Int.mul_le_mul (by omega) (by omega) (by omega) (by omega)
  exact key l.length 0 n l kv rfl (by omega) (by omega) hn h0 (by omega)
theorem markPairS (fu : Nat) (l : List Pair) (kv : Int) (hl : l.length ≤ 1048576) (h0 : 0 ≤ kv) (h1 : kv ≤ 68719476736) (hn : l.length < fu) : ∃ x', d_laws_markPairS fu l kv = some (kv + 2 * l.length, x') := by
  refine mark_loop 2 (by omega) (fun n x kv i => d_laws_markPairS_L1 fu n x kv i) ?_ ?_ l kv fu hl h0 h1 hn
  · intro n x kv i y hy hd h0 h1
    have e1 : w64 (kv + 1) = kv + 1 := w64_id (by omega) (by omega)
    have e2 : w64 (kv + 1 + 1) = kv + 1 + 1 := w64_id (by omega) (by omega)
    have e' : kv + 1 + 1 = kv + 2 := by omega
    refine ⟨?_, ?_, ?_⟩
    rotate_left 2
    · simp only [d_laws_markPairS_L1_s]
      unfold d_laws_markPairS_L1_B
      simp only [hd, cond_true, hy, ob_some, ix_setx_eq, Option.map_some, e1, e2]
      rw [e']
      rfl
    · simp [setx_len]
  · intro n x kv i hd
    simp only [d_laws_markPairS_L1_s]
    unfold d_laws_markPairS_L1_B
    simp only [hd, cond_false]
theorem markTypeS (fu : Nat) (l : List Typ) (kv : Int) (hl : l.length ≤ 1048576) (h0 : 0 ≤ kv) (h1 : kv ≤ 68719476736) (hn : l.length < fu) : ∃ x', d_laws_markTypeS fu l kv = some (kv + 7 * l.length, x') := by
  refine mark_loop 7 (by omega) (fun n x kv i => d_laws_markTypeS_L1 fu n x kv i) ?_ ?_ l kv fu hl h0 h1 hn
  · intro n x kv i y hy hd h0 h1
    have e1 : w64 (kv + 1) = kv + 1 := w64_id (by omega) (by omega)
    have e2 : w64 (kv + 1 + 1) = kv + 1 + 1 := w64_id (by omega) (by omega)
    have e3 : w64 (kv + 1 + 1 + 1) = kv + 1 + 1 + 1 := w64_id (by omega) (by omega)
    have e4 : w64 (kv + 1 + 1 + 1 + 1) = kv + 1 + 1 + 1 + 1 := w64_id (by omega) (by omega)
    have e5 : w64 (kv + 1 + 1 + 1 + 1 + 1) = kv + 1 + 1 + 1 + 1 + 1 := w64_id (by omega) (by omega)
    have e6 : w64 (kv + 1 + 1 + 1 + 1 + 1 + 1) = kv + 1 + 1 + 1 + 1 + 1 + 1 := w64_id (by omega) (by omega)
    have e7 : w64 (kv + 1 + 1 + 1 + 1 + 1 + 1 + 1) = kv + 1 + 1 + 1 + 1 + 1 + 1 + 1 := w64_id (by omega) (by omega)
    have e' : kv + 1 + 1 + 1 + 1 + 1 + 1 + 1 = kv + 7 := by omega
    refine ⟨?_, ?_, ?_⟩
    rotate_left 2
    · simp only [d_laws_markTypeS_L1_s]
      unfold d_laws_markTypeS_L1_B
      simp only [hd, cond_true, hy, ob_some, ix_setx_eq, Option.map_some, e1, e2, e3, e4, e5, e6, e7]
      rw [e']
      rfl
    · simp [setx_len]
  · intro n x kv i hd
    simp only [d_laws_markTypeS_L1_s]
    unfold d_laws_markTypeS_L1_B
    simp only [hd, cond_false]
theorem markItemS (fu : Nat) (l : List Item) (kv : Int) (hl : l.length ≤ 1048576) (h0 : 0 ≤ kv) (h1 : kv ≤ 68719476736) (hn : l.length < fu) : ∃ x', d_laws_markItemS fu l kv = some (kv + 7 * l.length, x') := by
  refine mark_loop 7 (by omega) (fun n x kv i => d_laws_markItemS_L1 fu n x kv i) ?_ ?_ l kv fu hl h0 h1 hn
  · intro n x kv i y hy hd h0 h1
    have e1 : w64 (kv + 1) = kv + 1 := w64_id (by omega) (by omega)
    have e2 : w64 (kv + 1 + 1) = kv + 1 + 1 := w64_id (by omega) (by omega)
    have e3 : w64 (kv + 1 + 1 + 1) = kv + 1 + 1 + 1 := w64_id (by omega) (by omega)
    have e4 : w64 (kv + 1 + 1 + 1 + 1) = kv + 1 + 1 + 1 + 1 := w64_id (by omega) (by omega)
    have e5 : w64 (kv + 1 + 1 + 1 + 1 + 1) = kv + 1 + 1 + 1 + 1 + 1 := w64_id (by omega) (by omega)
    have e6 : w64 (kv + 1 + 1 + 1 + 1 + 1 + 1) = kv + 1 + 1 + 1 + 1 + 1 + 1 := w64_id (by omega) (by omega)
    have e7 : w64 (kv + 1 + 1 + 1 + 1 + 1 + 1 + 1) = kv + 1 + 1 + 1 + 1 + 1 + 1 + 1 := w64_id (by omega) (by omega)
    have e' : kv + 1 + 1 + 1 + 1 + 1 + 1 + 1 = kv + 7 := by omega
    refine ⟨?_, ?_, ?_⟩
    rotate_left 2
    · simp only [d_laws_markItemS_L1_s]
      unfold d_laws_markItemS_L1_B
      simp only [hd, cond_true, hy, ob_some, ix_setx_eq, Option.map_some, e1, e2, e3, e4, e5, e6, e7]
      rw [e']
      rfl
    · simp [setx_len]
  · intro n x kv i hd
    simp only [d_laws_markItemS_L1_s]
    unfold d_laws_markItemS_L1_B
    simp only [hd, cond_false]
theorem markReq {fu : Nat} {r : Request} (h : Sm fu r) (kv : Int) (h0 : 0 ≤ kv) (h1 : kv ≤ 1073741824) : ∃ k x', d_laws_markRequest fu r kv = some (k, x') ∧ 0 ≤ k ∧ k ≤ kv + 16777216 := by
  have hfu := h.fu
  have a1 := h.items
  have a2 := h.types
  have a3 := h.pairs
  unfold d_laws_markRequest
  obtain ⟨x1, e1⟩ := markPairS fu r.fPairs kv a3 h0 (by omega) (by omega)
  rw [e1, ob_some]
  obtain ⟨x2, e2⟩ := markTypeS fu r.fTypes (kv + 2 * r.fPairs.length) a2 (by omega) (by omega) (by omega)
  rw [e2, ob_some]
  obtain ⟨x3, e3⟩ := markItemS fu r.fItems (kv + 2 * r.fPairs.length + 7 * r.fTypes.length) a1 (by omega) (by omega) (by omega)
  rw [e3, ob_some]
  exact ⟨_, _, rfl, by omega, by omega⟩
end Go.Proofs.YthjbcfefkdbgoaaGreat
