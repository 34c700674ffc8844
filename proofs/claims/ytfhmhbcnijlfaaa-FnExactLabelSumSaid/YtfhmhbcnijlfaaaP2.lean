/- The plain laws of FnExactCheckText and FnExactLabelSum. -/
import Derived.Test.YtfhmhbcnijlfaaaW2
import Derived.Test.YtfhmhbcnijlfaaaQ1
import Derived.Test.YtfhmhbcnijlfaaaD1
namespace Go.Proofs.Ytfhmhbcnijlfaaa
open Go
open Enc (rd ow)
open Arg (argv)
open Ret (retv)
open Wf (wf)

theorem l1In_eq (fu : Nat) (n lo hi : Int) : d_spec_l1In fu n lo hi = some (decide (lo ≤ n ∧ n ≤ hi)) := by
  unfold d_spec_l1In
  by_cases h : n ≥ lo
  · rw [bif_true (by simpa using h)]
    have : lo ≤ n := h
    simp [this]
  · rw [bif_false (by simpa using h)]
    have : ¬ lo ≤ n := h
    simp [this]
theorem in_eq (fu : Nat) (n lo hi : Int) : d_impl_in fu n lo hi = some (decide (lo ≤ n ∧ n ≤ hi)) := l1In_eq fu n lo hi

theorem checkText_eq (fu : Nat) (k : Int) : d_impl_CheckText fu k = d_spec_CheckText fu k := by
  unfold d_impl_CheckText d_spec_CheckText
  simp only [l1In_eq, in_eq]

theorem checkText_some (fu : Nat) (k : Int) : ∃ t, d_spec_CheckText fu k = some t := by
  unfold d_spec_CheckText
  rw [l1In_eq, ob_some]
  by_cases h : 0 ≤ k ∧ k ≤ 9
  · rw [bif_false (by simpa [w64, IntKind.wrap_i64] using h)]
    obtain ⟨n, rfl⟩ : ∃ n : Nat, k = n := ⟨k.toNat, by omega⟩
    have hn : n < 10 := by omega
    rw [ix_nat, List.getElem?_eq_getElem hn]
    exact ⟨_, rfl⟩
  · rw [bif_true (by simp [w64, IntKind.wrap_i64]; omega)]
    exact ⟨_, rfl⟩

theorem fnExactCheckText_pure (k : Int) (_ : wf k) : ∃ fu, d_laws_FnExactCheckText fu k = some true := by
  refine ⟨0, ?_⟩
  unfold d_laws_FnExactCheckText
  obtain ⟨t, ht⟩ := checkText_some 0 k
  rw [checkText_eq, ht, ob_some, ob_some, bif_false (by simp)]

theorem sx_nat {s : ByteArray} {i : Nat} (h : i < s.size) : ∃ c : Int, sx s (i : Int) = some c ∧ 0 ≤ c ∧ c ≤ 255 := by
  refine ⟨(s[i].toNat : Int), ?_, by omega, by have := s[i].toNat_lt; omega⟩
  unfold sx
  rw [if_pos (by omega), Int.toNat_natCast]
  simp [h]

theorem labelLoop (fu : Nat) (s : ByteArray) (hs : s.size ≤ 40) : ∀ (m i n : Nat) (x : Int), s.size - i = m → i ≤ s.size → m < n → 0 ≤ x → x < 97 →
    ∃ r, d_spec_LabelSum_L8 fu s n x i = some r ∧ d_impl_LabelSum_L7 fu s n x i = some r := by
  intro m
  induction m with
  | zero =>
    intro i n x hm hi hn h0 h1
    obtain ⟨n, rfl⟩ : ∃ k, n = k + 1 := ⟨n - 1, by omega⟩
    refine ⟨x, ?_, ?_⟩
    · rw [d_spec_LabelSum_L8_s]; unfold d_spec_LabelSum_L8_B
      rw [bif_false (by simp; omega)]
    · rw [d_impl_LabelSum_L7_s]; unfold d_impl_LabelSum_L7_B
      rw [bif_false (by simp; omega)]
  | succ m ih =>
    intro i n x hm hi hn h0 h1
    obtain ⟨n, rfl⟩ : ∃ k, n = k + 1 := ⟨n - 1, by omega⟩
    obtain ⟨c, hc, hc0, hc1⟩ := sx_nat (s := s) (i := i) (by omega)
    rw [d_spec_LabelSum_L8_s, d_impl_LabelSum_L7_s]
    unfold d_spec_LabelSum_L8_B d_impl_LabelSum_L7_B
    have hi' : (i : Int) < (s.size : Int) := by omega
    simp only [hi', decide_true, cond_true, hc, ob_some]
    by_cases h48 : c < 48
    · simp only [h48, decide_true, cond_true]
      exact ⟨_, rfl, rfl⟩
    by_cases h57 : c > 57
    · simp only [h48, h57, decide_false, decide_true, cond_true, cond_false]
      exact ⟨_, rfl, rfl⟩
    simp only [h48, h57, decide_false, cond_false]
    unfold d_spec_LabelSum_J11 d_impl_LabelSum_J10 d_spec_LabelSum_J10 d_impl_LabelSum_J9
    simp only [hc, ob_some]
    have e8 : w8 (c - 48) = c - 48 := by simp only [w8, IntKind.wrap_u8]; omega
    rw [e8, w64_id (n := 10 * x) (by omega) (by omega), w64_id (n := c) (by omega) (by omega), w64_id (n := 10 * x + c) (by omega) (by omega), w64_id (n := c - 48) (by omega) (by omega),
      w64_id (n := 10 * x + c - 48) (by omega) (by omega), w64_id (n := 10 * x + (c - 48)) (by omega) (by omega), w64_id (n := (i : Int) + 1) (by omega) (by omega)]
    have e : 10 * x + (c - 48) = 10 * x + c - 48 := by omega
    rw [e]
    have hp : 0 ≤ 10 * x + c - 48 := by omega
    have := ih (i + 1) n (Int.tmod (10 * x + c - 48) 97) (by omega) (by omega) (by omega) (by rw [Int.tmod_eq_emod_of_nonneg hp]; omega) (by rw [Int.tmod_eq_emod_of_nonneg hp]; omega)
    simpa using this

theorem labelSum_eq (fu : Nat) (s : ByteArray) (hf : 41 < fu) : ∃ r, d_spec_LabelSum fu s = some r ∧ d_impl_LabelSum fu s = some r := by
  unfold d_spec_LabelSum d_impl_LabelSum
  rw [in_eq, ob_some]
  by_cases h0 : s.size = 0
  · rw [bif_true (by simp [h0]), bif_true (by simp [h0])]
    exact ⟨_, rfl, rfl⟩
  rw [bif_false (by simpa using h0)]
  by_cases h1 : 40 < s.size
  · rw [bif_true (by simp; omega), bif_true (by simp; omega)]
    exact ⟨_, rfl, rfl⟩
  rw [bif_false (by simp; omega), bif_false (by simp; omega)]
  exact labelLoop fu s (by omega) s.size 0 fu 0 (by omega) (by omega) (by omega) (by omega) (by omega)

theorem fnExactLabelSum_pure (s : ByteArray) (_ : wf s) : ∃ fu, d_laws_FnExactLabelSum fu s = some true := by
  refine ⟨42, ?_⟩
  unfold d_laws_FnExactLabelSum
  by_cases h : (s.size : Int) > 1048576
  · rw [bif_true (by simpa using h)]
  rw [bif_false (by simpa using h)]
  obtain ⟨r, h1, h2⟩ := labelSum_eq 42 s (by omega)
  rw [h1, ob_some, h2, ob_some, bif_false (by simp)]

end Go.Proofs.Ytfhmhbcnijlfaaa
