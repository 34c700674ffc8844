/- spec's sorting by halves is the plain function of M1. -/
import Derived.Test.YthjbcfefkdbgoaaGreatExactOneEachW6
import Derived.Test.YthjbcfefkdbgoaaGreatM2
namespace Go.Proofs.YthjbcfefkdbgoaaGreat
open Go

theorem s_places {fu : Nat} (n : Nat) (hn : n ≤ 1048576) (hf : n < fu) : d_spec_l1Places fu (n : Int) = some (ints 0 n) := by
  unfold d_spec_l1Places
  have key : ∀ (m i k : Nat), n - i = m → i ≤ n → m < k → d_spec_l1Places_L1 fu (n : Int) k (ints 0 i) (i : Int) = some (ints 0 n) := by
    intro m
    induction m with
    | zero =>
      intro i k hm hi hk
      obtain ⟨k, rfl⟩ : ∃ j, k = j + 1 := ⟨k - 1, by omega⟩
      have : i = n := by omega
      subst this
      rw [d_spec_l1Places_L1_s]
      unfold d_spec_l1Places_L1_B
      simp
    | succ m ih =>
      intro i k hm hi hk
      obtain ⟨k, rfl⟩ : ∃ j, k = j + 1 := ⟨k - 1, by omega⟩
      rw [d_spec_l1Places_L1_s]
      unfold d_spec_l1Places_L1_B
      rw [bif_true (by simp; omega), ap1 (by rw [ints_len]; simp; omega), ob_some, w64_s i (by omega)]
      have e := ints_snoc 0 i
      rw [Int.zero_add] at e
      rw [← e]
      exact ih (i + 1) k (by omega) (by omega) (by omega)
  exact key n 0 fu (by omega) (by omega) hf

def dk (keys : List Int) (down : Bool) (p : Int) : Int := bif down then - kf keys p else kf keys p
theorem kf_ix {keys : List Int} {p : Int} (h : 0 ≤ p ∧ p < keys.length) : ix keys p = some (kf keys p) := by
  have h1 : p.toNat < keys.length := by omega
  unfold kf ix
  rw [if_pos h.1, List.getElem?_eq_getElem h1]
  rfl

theorem s_mrg {fu : Nat} {keys a b : List Int} (down : Bool) (ha : ∀ p ∈ a, 0 ≤ p ∧ p < keys.length) (hb : ∀ p ∈ b, 0 ≤ p ∧ p < keys.length) (hla : a.length ≤ 1048576) (hlb : b.length ≤ 1048576) :
    ∀ (m : Nat) (n : Nat) (out : List Int) (i j : Nat), i ≤ a.length → j ≤ b.length → (a.length - i) + (b.length - j) = m → m < n → out.length + m ≤ 2097152 →
      d_spec_l1Merge_L1 fu keys down a b n out i j = some (out ++ mrg (dk keys down) (a.drop i) (b.drop j)) := by
  intro m
  induction m with
  | zero =>
    intro n out i j hi hj hm hn ho
    obtain ⟨n, rfl⟩ : ∃ k, n = k + 1 := ⟨n - 1, by omega⟩
    rw [d_spec_l1Merge_L1_s]
    unfold d_spec_l1Merge_L1_B
    rw [bif_false (by simp; omega), bif_false (by simp; omega), List.drop_of_length_le (show a.length ≤ i by omega), List.drop_of_length_le (show b.length ≤ j by omega)]
    simp [mrg]
  | succ m ih =>
    intro n out i j hi hj hm hn ho
    obtain ⟨n, rfl⟩ : ∃ k, n = k + 1 := ⟨n - 1, by omega⟩
    have hL : d_spec_l1Merge_L1 fu keys down a b (n + 1) out i j = d_spec_l1Merge_J1 fu (d_spec_l1Merge_L1 fu keys down a b n) keys down a b out i j := by
      rw [d_spec_l1Merge_L1_s]
      unfold d_spec_l1Merge_L1_B
      by_cases h : i < a.length
      · rw [bif_true (by simpa using h)]
      · rw [bif_false (by simpa using h), bif_true (by simp; omega)]
    have tA : ∀ (h : i < a.length), (apnd 8 out [a[i]]) = some (out ++ [a[i]]) := fun h => ap1 (by simp; omega)
    have tB : ∀ (h : j < b.length), (apnd 8 out [b[j]]) = some (out ++ [b[j]]) := fun h => ap1 (by simp; omega)
    have nA : ∀ (h : i < a.length), d_spec_l1Merge_L1 fu keys down a b n (out ++ [a[i]]) (w64 ((i : Int) + 1)) j = some (out ++ a[i] :: mrg (dk keys down) (a.drop (i + 1)) (b.drop j)) := fun h => by
      rw [w64_s i (by omega), ih n (out ++ [a[i]]) (i + 1) j (by omega) hj (by omega) (by omega) (by simp; omega)]
      simp
    have nB : ∀ (h : j < b.length), d_spec_l1Merge_L1 fu keys down a b n (out ++ [b[j]]) i (w64 ((j : Int) + 1)) = some (out ++ b[j] :: mrg (dk keys down) (a.drop i) (b.drop (j + 1))) := fun h => by
      rw [w64_s j (by omega), ih n (out ++ [b[j]]) i (j + 1) hi (by omega) (by omega) (by omega) (by simp; omega)]
      simp
    rw [hL]
    unfold d_spec_l1Merge_J1
    by_cases hjb : j = b.length
    · have h : i < a.length := by omega
      rw [bif_true (by simp [hjb]), ix_i h, ob_some, tA h, ob_some, nA h, List.drop_of_length_le (show b.length ≤ j by omega), mrg_nil, mrg_nil, ← List.drop_eq_getElem_cons h]
    · have hj' : j < b.length := by omega
      rw [bif_false (by simp; omega)]
      by_cases hia : i = a.length
      · rw [bif_true (by simp [hia]), ix_i hj', ob_some, tB hj', ob_some, nB hj', List.drop_of_length_le (show a.length ≤ i by omega)]
        have e1 : ∀ l, mrg (dk keys down) [] l = l := fun l => by rw [mrg]
        rw [e1, e1, ← List.drop_eq_getElem_cons hj']
      · have hi' : i < a.length := by omega
        rw [bif_false (by simp; omega)]
        simp only [ix_i hi', ix_i hj', ob_some, kf_ix (ha _ (List.getElem_mem hi')), kf_ix (hb _ (List.getElem_mem hj')), tA hi', tB hj', nA hi', nB hj']
        rw [List.drop_eq_getElem_cons hi', List.drop_eq_getElem_cons hj', mrg_cons, ← List.drop_eq_getElem_cons hi', ← List.drop_eq_getElem_cons hj']
        have hx : dk keys down a[i] = bif down then - kf keys a[i] else kf keys a[i] := rfl
        have hy : dk keys down b[j] = bif down then - kf keys b[j] else kf keys b[j] := rfl
        rw [hx, hy]
        generalize kf keys a[i] = x
        generalize kf keys b[j] = y
        cases down
        · by_cases hc : y < x
          · rw [if_pos (by simpa using hc)]; simp [hc]
          · rw [if_neg (by simpa using hc)]
            have : decide (y > x) = true ∨ decide (y > x) = false := by cases decide (y > x) <;> simp
            rcases this with h | h <;> simp [hc, h]
        · by_cases hc : x < y
          · have h : ¬ y < x := by omega
            rw [if_pos (by simpa using hc)]; simp [hc, h]
          · rw [if_neg (by simpa using hc)]
            have h : decide (y < x) = true ∨ decide (y < x) = false := by cases decide (y < x) <;> simp
            rcases h with h | h <;> simp [hc, h]

theorem s_msrR {fu : Nat} {keys : List Int} (down : Bool) (hfu : 2097153 ≤ fu) : ∀ (n : Nat) (l : List Int), l.length ≤ n → l.length ≤ 1048576 → (∀ p ∈ l, 0 ≤ p ∧ p < keys.length) →
    d_spec_l1Merge_R fu (n + 1) keys l down = some (msr (dk keys down) (n + 1) l)
  | n, l, hn, hl, hm => by
    rw [d_spec_l1Merge_Rs]
    unfold d_spec_l1Merge_RB msr
    by_cases h2 : l.length < 2
    · rw [bif_true (by simp; omega), if_pos h2, ap1 (by simp; omega)]; rfl
    · rw [bif_false (by simp; omega), if_neg h2]
      have hd : Int.tdiv (l.length : Int) 2 = ((l.length / 2 : Nat) : Int) := by simp [Int.tdiv]
      obtain ⟨n, rfl⟩ : ∃ k, n = k + 1 := ⟨n - 1, by omega⟩
      rw [hd, w64_id (by omega) (by omega), sls_some (by omega), sls_some (by omega), ob_some]
      simp only [Int.toNat_natCast, Int.toNat_zero, List.drop_zero, Nat.sub_zero, ob_some]
      rw [s_msrR down hfu n (l.take (l.length / 2)) (by rw [List.length_take]; omega) (by rw [List.length_take]; omega) (fun p hp => hm p (List.mem_of_mem_take hp)), ob_some]
      have e : (l.drop (l.length / 2)).take (l.length - l.length / 2) = l.drop (l.length / 2) := List.take_of_length_le (by rw [List.length_drop]; omega)
      rw [e, s_msrR down hfu n (l.drop (l.length / 2)) (by rw [List.length_drop]; omega) (by rw [List.length_drop]; omega) (fun p hp => hm p (List.mem_of_mem_drop hp)), ob_some]
      have hp1 := (msr_perm (dk keys down) (n + 1) (l.take (l.length / 2)))
      have hp2 := (msr_perm (dk keys down) (n + 1) (l.drop (l.length / 2)))
      have l1 := hp1.length_eq
      have l2 := hp2.length_eq
      rw [List.length_take] at l1
      rw [List.length_drop] at l2
      rw [show (0 : Int) = ((0 : Nat) : Int) from rfl]
      rw [s_mrg down (fun p hp => hm p (List.mem_of_mem_take (hp1.mem_iff.1 hp))) (fun p hp => hm p (List.mem_of_mem_drop (hp2.mem_iff.1 hp))) (by omega) (by omega) _ fu [] 0 0 (by omega) (by omega) rfl (by omega) (by simp; omega)]
      simp
theorem s_up {fu : Nat} {keys : List Int} (hfu : 2097153 ≤ fu) (hl : keys.length ≤ 1048576) : d_spec_SortUp fu keys = some (srt (kf keys) keys.length) := by
  unfold d_spec_SortUp d_spec_l1Merge
  rw [s_places keys.length hl (by omega), ob_some]
  obtain ⟨m, rfl⟩ : ∃ m, fu = m + 1 := ⟨fu - 1, by omega⟩
  rw [s_msrR false hfu m _ (by rw [ints_len]; omega) (by rw [ints_len]; omega) (fun p hp => by have := ints_mem.1 hp; omega), ob_some]
  congr 1
  have e : dk keys false = kf keys := rfl
  rw [e]
  exact srt_uniq (msr_perm _ _ _) (msr_sorted _ _ _ (by rw [ints_len]; omega) (ints_lt _ _))
end Go.Proofs.YthjbcfefkdbgoaaGreat
