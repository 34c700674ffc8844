/- What is marked: lists of numbers. -/
import Derived.Test.YthjbcfefkdbgoaaGreatExactOneEachW6
import Derived.Test.YthjbcfefkdbgoaaGreatM2
import Derived.Test.YthjbcfefkdbgoaaGreatExactOneEachPMark
namespace Go.Proofs.YthjbcfefkdbgoaaGreat
open Go
theorem markIntS (fu : Nat) (l : List Int) (kv : Int) (hl : l.length ≤ 1048576) (h0 : 0 ≤ kv) (h1 : kv ≤ 68719476736) (hn : l.length < fu) : d_laws_markIntS fu l kv = some (kv + l.length, ints kv l.length) := by
  unfold d_laws_markIntS
  have key : ∀ (xs pre : List Int) (n : Nat) (k : Int), pre.length + xs.length = l.length → xs.length < n → 0 ≤ k → k + xs.length ≤ 1099511627776 →
      d_laws_markIntS_L1 fu n (pre ++ xs) k (pre.length : Int) = some (k + xs.length, pre ++ ints k xs.length) := by
    intro xs
    induction xs with
    | nil =>
      intro pre n k h hn h0 h1
      obtain ⟨n, rfl⟩ : ∃ j, n = j + 1 := ⟨n - 1, by omega⟩
      rw [d_laws_markIntS_L1_s]
      unfold d_laws_markIntS_L1_B
      rw [bif_false (by simp)]
      simp [ints]
    | cons x xs ih =>
      intro pre n k h hn h0 h1
      obtain ⟨n, rfl⟩ : ∃ j, n = j + 1 := ⟨n - 1, by simp at hn; omega⟩
      simp only [List.length_cons] at h h1 hn
      rw [d_laws_markIntS_L1_s]
      unfold d_laws_markIntS_L1_B
      have e : ix (pre ++ x :: xs) (pre.length : Int) = some x := by rw [ix_nat]; simp
      rw [bif_true (by simp; omega), e, ob_some, w64_id (n := k + 1) (by omega) (by omega), w64_s _ (by omega)]
      have e2 : setx (pre ++ x :: xs) (pre.length : Int) k = (pre ++ [k]) ++ xs := by simp [setx]
      have := ih (pre ++ [k]) n (k + 1) (by simp; omega) (by omega) (by omega) (by omega)
      simp only [List.length_append, List.length_singleton] at this
      rw [e2, this]
      simp only [List.length_cons, ints, List.append_assoc, List.singleton_append]
      congr 2
      omega
  have := key l [] fu kv (by simp) hn h0 (by omega)
  simpa using this
end Go.Proofs.YthjbcfefkdbgoaaGreat
