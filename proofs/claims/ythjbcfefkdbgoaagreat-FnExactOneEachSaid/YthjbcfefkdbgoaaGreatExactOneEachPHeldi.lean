/- What is held: lists of numbers. -/
import Derived.Test.YthjbcfefkdbgoaaGreatExactOneEachW6
import Derived.Test.YthjbcfefkdbgoaaGreatM2
import Derived.Test.YthjbcfefkdbgoaaGreatExactOneEachPMark
namespace Go.Proofs.YthjbcfefkdbgoaaGreat
open Go
theorem ints_get : ∀ (m : Nat) (a : Int) (i : Nat), i < m → (ints a m)[i]? = some (a + i)
  | 0, _, _, h => by omega
  | m + 1, a, 0, _ => by simp [ints]
  | m + 1, a, i + 1, h => by
    simp only [ints, List.getElem?_cons_succ]
    rw [ints_get m (a + 1) i (by omega)]
    congr 1
    omega
theorem heldIntS (fu : Nat) (m : Nat) (kv : Int) (hl : m ≤ 1048576) (h0 : 0 ≤ kv) (h1 : kv ≤ 68719476736) (hn : m < fu) : d_laws_heldIntS fu (ints kv m) kv = some (kv + m) := by
  unfold d_laws_heldIntS
  have key : ∀ (j i n : Nat), m - i = j → i ≤ m → j < n → d_laws_heldIntS_L1 fu (ints kv m) n (kv + i) (i : Int) = some (kv + m) := by
    intro j
    induction j with
    | zero =>
      intro i n hj hi hn
      obtain ⟨n, rfl⟩ : ∃ j, n = j + 1 := ⟨n - 1, by omega⟩
      rw [d_laws_heldIntS_L1_s]
      unfold d_laws_heldIntS_L1_B
      rw [bif_false (by rw [ints_len]; simp; omega)]
      congr 1
      omega
    | succ j ih =>
      intro i n hj hi hn
      obtain ⟨n, rfl⟩ : ∃ j, n = j + 1 := ⟨n - 1, by omega⟩
      rw [d_laws_heldIntS_L1_s]
      unfold d_laws_heldIntS_L1_B
      rw [bif_true (by rw [ints_len]; simp; omega), ix_nat, ints_get m kv i (by omega), ob_some, bif_false (by simp), w64_id (by omega) (by omega), w64_s _ (by omega)]
      have := ih (i + 1) n (by omega) (by omega) (by omega)
      rw [← this]
      congr 1
      omega
  have := key m 0 fu (by omega) (by omega) hn
  simpa using this
end Go.Proofs.YthjbcfefkdbgoaaGreat
