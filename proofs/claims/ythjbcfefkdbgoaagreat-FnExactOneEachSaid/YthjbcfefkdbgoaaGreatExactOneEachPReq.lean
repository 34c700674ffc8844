/- Orders in the laws: their size, copies, equality. -/
import Derived.Test.YthjbcfefkdbgoaaGreatExactOneEachW6
import Derived.Test.YthjbcfefkdbgoaaGreatM2
import Derived.Test.YthjbcfefkdbgoaaGreatExactOneEachPCls
namespace Go.Proofs.YthjbcfefkdbgoaaGreat
open Go

/-- a copy, element by element -/
theorem toS_loop {α : Type} (l : List α) (L : Nat → List α → Int → Option (List α)) (z : α) (hl : l.length ≤ 1048576)
    (hs : ∀ n out (i : Int) x y, ix l i = some x → decide (i < (l.length : Int)) = true → ix out i = some y → L (n + 1) out i = L n (setx out i x) (w64 (i + 1)))
    (he : ∀ n out (i : Int), decide (i < (l.length : Int)) = false → L (n + 1) out i = some out) (n : Nat) (hn : l.length < n) : L n (List.replicate l.length z) 0 = some l := by
  have key : ∀ (xs pre : List α) (n : Nat) (out : List α), l = pre ++ xs → out.length = l.length → xs.length < n → L n out (pre.length : Int) = some (out.take pre.length ++ xs) := by
    intro xs
    induction xs with
    | nil =>
      intro pre n out h ho hn
      obtain ⟨n, rfl⟩ : ∃ k, n = k + 1 := ⟨n - 1, by omega⟩
      simp only [List.append_nil] at h
      subst h
      rw [he n out _ (by simp), ← ho]
      simp
    | cons x xs ih =>
      intro pre n out h ho hn
      obtain ⟨n, rfl⟩ : ∃ k, n = k + 1 := ⟨n - 1, by simp at hn; omega⟩
      have hlen : l.length = pre.length + (xs.length + 1) := by rw [h]; simp
      have hlt : pre.length < out.length := by omega
      rw [hs n out _ x out[pre.length] (by rw [ix_nat, h]; simp) (by simp; omega) (ix_i hlt), w64_s _ (by omega)]
      have := ih (pre ++ [x]) n (setx out (pre.length : Int) x) (by simp [h]) (by simp [setx, ho]) (by simp at hn; omega)
      simp only [List.length_append, List.length_singleton] at this
      rw [this]
      congr 1
      simp only [setx, Int.toNat_natCast]
      rw [List.take_succ_eq_append_getElem (by simp; omega)]
      simp [List.take_set_of_le]
  have := key l [] n (List.replicate l.length z) rfl (by simp) hn
  simpa using this
/-- equality, element by element, of a list with itself -/
theorem eqS_loop {α : Type} (l : List α) (L : Nat → Int → Option Bool) (hl : l.length ≤ 1048576)
    (hs : ∀ n (i : Int) x, ix l i = some x → decide (i < (l.length : Int)) = true → L (n + 1) i = L n (w64 (i + 1)))
    (he : ∀ n (i : Int), decide (i < (l.length : Int)) = false → L (n + 1) i = some true) (n : Nat) (hn : l.length < n) : L n 0 = some true :=
  lp l (fun n (_ : Unit) i => L n i) (fun _ _ => some true) (by omega) (fun n s i x xs hx hd ih => by rw [hs n i x hx hd]; exact ih ()) (fun n s i hd => he n i hd) n () hn

theorem szS {n : Nat} {left : Int} (hn : n ≤ maxLen) (h1 : 0 ≤ left) (h2 : left ≤ 1048576) : (bif (decide ((w64 (left - (n : Int))) < 0)) then some (-1) else some (w64 (left - (n : Int)))) = some (if left < n then -1 else left - n) := by
  have : (n : Int) ≤ 9223372036854775807 := by simp only [maxLen] at hn; omega
  rw [w64_id (by omega) (by omega)]
  by_cases h : left < n
  · rw [bif_true (by simp; omega), if_pos h]
  · rw [bif_false (by simp; omega), if_neg h]
theorem szPairS (fu : Nat) (l : List Pair) (left : Int) (hl : l.length ≤ maxLen) (h1 : 0 ≤ left) (h2 : left ≤ 1048576) : d_laws_szPairS fu l left = some (if left < l.length then -1 else left - l.length) := szS hl h1 h2
theorem szTypeS (fu : Nat) (l : List Typ) (left : Int) (hl : l.length ≤ maxLen) (h1 : 0 ≤ left) (h2 : left ≤ 1048576) : d_laws_szTypeS fu l left = some (if left < l.length then -1 else left - l.length) := szS hl h1 h2
theorem szItemS (fu : Nat) (l : List Item) (left : Int) (hl : l.length ≤ maxLen) (h1 : 0 ≤ left) (h2 : left ≤ 1048576) : d_laws_szItemS fu l left = some (if left < l.length then -1 else left - l.length) := szS hl h1 h2
/-- either the order is too great, or it is small and some is left -/
theorem szReq (fu : Nat) (r : Request) (hw : wf r) : (∃ x, d_laws_szRequest fu r 1048576 = some x ∧ x < 0) ∨ (∃ x, d_laws_szRequest fu r 1048576 = some x ∧ 0 ≤ x ∧ x ≤ 1048576 ∧ r.fPairs.length ≤ 1048576 ∧ r.fTypes.length ≤ 1048576 ∧ r.fItems.length ≤ 1048576) := by
  have hp : r.fPairs.length ≤ maxLen := hw.2.2.2.1.1
  have ht : r.fTypes.length ≤ maxLen := hw.2.2.2.2.1.1
  have hi : r.fItems.length ≤ maxLen := hw.2.2.2.2.2.2.1
  unfold d_laws_szRequest
  rw [szPairS fu _ _ hp (by omega) (by omega), ob_some]
  by_cases h1 : (1048576 : Int) < r.fPairs.length
  · rw [if_pos h1]; exact .inl ⟨-1, by simp, by omega⟩
  rw [if_neg h1, bif_false (by simp; omega), szTypeS fu _ _ ht (by omega) (by omega), ob_some]
  by_cases h2 : (1048576 : Int) - r.fPairs.length < r.fTypes.length
  · rw [if_pos h2]; exact .inl ⟨-1, by simp, by omega⟩
  rw [if_neg h2, bif_false (by simp; omega), szItemS fu _ _ hi (by omega) (by omega), ob_some]
  by_cases h3 : (1048576 : Int) - r.fPairs.length - r.fTypes.length < r.fItems.length
  · rw [if_pos h3]; exact .inl ⟨-1, by simp, by omega⟩
  rw [if_neg h3, bif_false (by simp; omega)]
  exact .inr ⟨_, rfl, by omega, by omega, by omega, by omega, by omega⟩

theorem toPairS (fu : Nat) (l : List Pair) (h : l.length ≤ 1048576) (hf : l.length < fu) : d_laws_toPairS fu l = some l := by
  unfold d_laws_toPairS
  rw [mk_some (by omega), ob_some]
  refine toS_loop l (fun n out i => d_laws_toPairS_L1 fu l n out i) _ h ?_ ?_ fu hf
  · intro n out i x y hx hd hy
    simp only [d_laws_toPairS_L1_s]
    unfold d_laws_toPairS_L1_B d_laws_toPair
    simp only [hd, cond_true, hx, ob_some, hy]
  · intro n out i hd
    simp only [d_laws_toPairS_L1_s]
    unfold d_laws_toPairS_L1_B
    simp only [hd, cond_false]
theorem toTypeS (fu : Nat) (l : List Typ) (h : l.length ≤ 1048576) (hf : l.length < fu) : d_laws_toTypeS fu l = some l := by
  unfold d_laws_toTypeS
  rw [mk_some (by omega), ob_some]
  refine toS_loop l (fun n out i => d_laws_toTypeS_L1 fu l n out i) _ h ?_ ?_ fu hf
  · intro n out i x y hx hd hy
    simp only [d_laws_toTypeS_L1_s]
    unfold d_laws_toTypeS_L1_B d_laws_toType
    simp only [hd, cond_true, hx, ob_some, hy]
  · intro n out i hd
    simp only [d_laws_toTypeS_L1_s]
    unfold d_laws_toTypeS_L1_B
    simp only [hd, cond_false]
theorem toItemS (fu : Nat) (l : List Item) (h : l.length ≤ 1048576) (hf : l.length < fu) : d_laws_toItemS fu l = some l := by
  unfold d_laws_toItemS
  rw [mk_some (by omega), ob_some]
  refine toS_loop l (fun n out i => d_laws_toItemS_L1 fu l n out i) _ h ?_ ?_ fu hf
  · intro n out i x y hx hd hy
    simp only [d_laws_toItemS_L1_s]
    unfold d_laws_toItemS_L1_B d_laws_toItem
    simp only [hd, cond_true, hx, ob_some, hy]
  · intro n out i hd
    simp only [d_laws_toItemS_L1_s]
    unfold d_laws_toItemS_L1_B
    simp only [hd, cond_false]
theorem toReq {fu : Nat} {r : Request} (h : Sm fu r) : d_laws_toRequest fu r = some r := by
  have hfu := h.fu
  have h1 := h.items
  have h2 := h.types
  have h3 := h.pairs
  unfold d_laws_toRequest d_laws_toPallet
  rw [ob_some, toPairS fu _ h3 (by omega), ob_some, toTypeS fu _ h2 (by omega), ob_some, toItemS fu _ h1 (by omega), ob_some]

theorem eqPairS (fu : Nat) (l : List Pair) (h : l.length ≤ 1048576) (hf : l.length < fu) : d_laws_eqPairS fu l l = some true := by
  unfold d_laws_eqPairS
  rw [bif_false (by simp)]
  refine eqS_loop l (fun n i => d_laws_eqPairS_L1 fu l l n i) h ?_ ?_ fu hf
  · intro n i x hx hd
    simp only [d_laws_eqPairS_L1_s]
    unfold d_laws_eqPairS_L1_B d_laws_eqPair
    simp [hd, hx]
  · intro n i hd
    simp only [d_laws_eqPairS_L1_s]
    unfold d_laws_eqPairS_L1_B
    simp only [hd, cond_false]
theorem eqTypeS (fu : Nat) (l : List Typ) (h : l.length ≤ 1048576) (hf : l.length < fu) : d_laws_eqTypeS fu l l = some true := by
  unfold d_laws_eqTypeS
  rw [bif_false (by simp)]
  refine eqS_loop l (fun n i => d_laws_eqTypeS_L1 fu l l n i) h ?_ ?_ fu hf
  · intro n i x hx hd
    simp only [d_laws_eqTypeS_L1_s]
    unfold d_laws_eqTypeS_L1_B d_laws_eqType
    simp [hd, hx]
  · intro n i hd
    simp only [d_laws_eqTypeS_L1_s]
    unfold d_laws_eqTypeS_L1_B
    simp only [hd, cond_false]
theorem eqItemS (fu : Nat) (l : List Item) (h : l.length ≤ 1048576) (hf : l.length < fu) : d_laws_eqItemS fu l l = some true := by
  unfold d_laws_eqItemS
  rw [bif_false (by simp)]
  refine eqS_loop l (fun n i => d_laws_eqItemS_L1 fu l l n i) h ?_ ?_ fu hf
  · intro n i x hx hd
    simp only [d_laws_eqItemS_L1_s]
    unfold d_laws_eqItemS_L1_B d_laws_eqItem
    simp [hd, hx]
  · intro n i hd
    simp only [d_laws_eqItemS_L1_s]
    unfold d_laws_eqItemS_L1_B
    simp only [hd, cond_false]
theorem eqReq {fu : Nat} {r : Request} (h : Sm fu r) : d_laws_eqRequest fu r r = some true := by
  have hfu := h.fu
  have h1 := h.items
  have h2 := h.types
  have h3 := h.pairs
  unfold d_laws_eqRequest d_laws_eqPallet
  rw [eqPairS fu _ h3 (by omega), eqTypeS fu _ h2 (by omega), eqItemS fu _ h1 (by omega)]
  simp
end Go.Proofs.YthjbcfefkdbgoaaGreat
