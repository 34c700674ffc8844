/- Lists of lists of numbers in the laws: what is marked and held. -/
import Derived.Test.YthjbcfefkdbgoaaGreatExactOneEachW6
import Derived.Test.YthjbcfefkdbgoaaGreatM2
import Derived.Test.YthjbcfefkdbgoaaGreatExactOneEachPMarki0
import Derived.Test.YthjbcfefkdbgoaaGreatExactOneEachPHeldi
import Derived.Test.YthjbcfefkdbgoaaGreatExactOneEachPEqintss
namespace Go.Proofs.YthjbcfefkdbgoaaGreat
open Go
/-- the lengths' sum -/
def lens : List (List Int) → Nat
  | [] => 0
  | x :: xs => x.length + lens xs
/-- lists of the same lengths, filled with one number after another -/
def segs : Int → List (List Int) → List (List Int)
  | _, [] => []
  | k, x :: xs => ints k x.length :: segs (k + x.length) xs
theorem segs_len : ∀ (k : Int) (l : List (List Int)), (segs k l).length = l.length
  | _, [] => rfl
  | k, x :: xs => by simp [segs, segs_len]
theorem markIntSS (fu : Nat) (l : List (List Int)) (kv : Int) (hl : l.length ≤ 1048576) (hm : ∀ x ∈ l, x.length ≤ 1048576) (hs : lens l ≤ 1073741824) (h0 : 0 ≤ kv) (h1 : kv ≤ 1073741824) (hf : 1048577 ≤ fu) :
    d_laws_markIntSS fu l kv = some (kv + lens l, segs kv l) := by
  unfold d_laws_markIntSS
  have key : ∀ (xs pre : List (List Int)) (n : Nat) (k : Int), pre.length + xs.length = l.length → xs.length < n → 0 ≤ k → k + lens xs ≤ 2147483648 → (∀ x ∈ xs, x.length ≤ 1048576) →
      d_laws_markIntSS_L1 fu n (pre ++ xs) k (pre.length : Int) = some (k + lens xs, pre ++ segs k xs) := by
    intro xs
    induction xs with
    | nil =>
      intro pre n k h hn h0 h1 hm
      obtain ⟨n, rfl⟩ : ∃ j, n = j + 1 := ⟨n - 1, by omega⟩
      rw [d_laws_markIntSS_L1_s]
      unfold d_laws_markIntSS_L1_B
      rw [bif_false (by simp)]
      simp [segs, lens]
    | cons x xs ih =>
      intro pre n k h hn h0 h1 hm
      obtain ⟨n, rfl⟩ : ∃ j, n = j + 1 := ⟨n - 1, by simp at hn; omega⟩
      simp only [List.length_cons, lens] at h h1 hn
      have hx := hm x (by simp)
      rw [d_laws_markIntSS_L1_s]
      unfold d_laws_markIntSS_L1_B
      have e : ix (pre ++ x :: xs) (pre.length : Int) = some x := by rw [ix_nat]; simp
      rw [bif_true (by simp; omega), e, ob_some, markIntS fu x k hx h0 (by omega) (by omega), ob_some, w64_s _ (by omega)]
      have e2 : setx (pre ++ x :: xs) (pre.length : Int) (ints k x.length) = (pre ++ [ints k x.length]) ++ xs := by simp [setx]
      have := ih (pre ++ [ints k x.length]) n (k + x.length) (by simp; omega) (by omega) (by omega) (by omega) (fun y hy => hm y (by simp [hy]))
      simp only [List.length_append, List.length_singleton] at this
      rw [e2, this]
      simp only [segs, lens, List.append_assoc, List.singleton_append]
      congr 2
      omega
  have := key l [] fu kv (by simp) (by omega) h0 (by omega) hm
  simpa using this
theorem heldIntSS (fu : Nat) (l : List (List Int)) (kv : Int) (hl : l.length ≤ 1048576) (hm : ∀ x ∈ l, x.length ≤ 1048576) (hs : lens l ≤ 1073741824) (h0 : 0 ≤ kv) (h1 : kv ≤ 1073741824) (hf : 1048577 ≤ fu) :
    d_laws_heldIntSS fu (segs kv l) kv = some (kv + lens l) := by
  unfold d_laws_heldIntSS
  have hL := segs_len kv l
  have key : ∀ (xs : List (List Int)) (pre : List (List Int)) (n : Nat) (k : Int), segs kv l = pre ++ segs k xs → pre.length + xs.length = l.length → xs.length < n → 0 ≤ k → k + lens xs = kv + lens l → (∀ x ∈ xs, x.length ≤ 1048576) →
      d_laws_heldIntSS_L1 fu (segs kv l) n k (pre.length : Int) = some (kv + lens l) := by
    intro xs
    induction xs with
    | nil =>
      intro pre n k he h hn h0 h1 hm
      obtain ⟨n, rfl⟩ : ∃ j, n = j + 1 := ⟨n - 1, by omega⟩
      rw [d_laws_heldIntSS_L1_s]
      unfold d_laws_heldIntSS_L1_B
      simp only [List.length_nil, lens] at h h1
      rw [bif_false (by rw [hL]; simp; omega)]
      congr 1
      omega
    | cons x xs ih =>
      intro pre n k he h hn h0 h1 hm
      obtain ⟨n, rfl⟩ : ∃ j, n = j + 1 := ⟨n - 1, by simp at hn; omega⟩
      simp only [List.length_cons, lens, segs] at h h1 hn he
      have hx := hm x (by simp)
      rw [d_laws_heldIntSS_L1_s]
      unfold d_laws_heldIntSS_L1_B
      have e : ix (segs kv l) (pre.length : Int) = some (ints k x.length) := by rw [ix_nat, he]; simp
      rw [bif_true (by rw [hL]; simp; omega), e, ob_some, heldIntS fu x.length k hx h0 (by omega) (by omega), ob_some, bif_false (by simp; omega), w64_s _ (by omega)]
      have := ih (pre ++ [ints k x.length]) n (k + x.length) (by simp [he]) (by simp; omega) (by omega) (by omega) (by omega) (fun y hy => hm y (by simp [hy]))
      simp only [List.length_append, List.length_singleton] at this
      exact this
  have := key l [] fu kv rfl (by simp) (by omega) h0 rfl hm
  simpa using this
end Go.Proofs.YthjbcfefkdbgoaaGreat
