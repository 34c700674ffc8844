/- The units of an order, by spec and by impl. -/
import Derived.Test.YthjbcfefkdbgoaaGreatExactOneEachW6
import Derived.Test.YthjbcfefkdbgoaaGreatM2
import Derived.Test.YthjbcfefkdbgoaaGreatExactOneEachPCls2
namespace Go.Proofs.YthjbcfefkdbgoaaGreat
open Go

/-- a loop over a list, what lies ahead and behind, and what holds -/
theorem lpPI {σ α β : Type} (l : List α) (L : Nat → σ → Int → Option β) (F : List α → List α → σ → Option β) (I : List α → List α → σ → Prop) (hl : l.length ≤ 1099511627776)
    (hs : ∀ n s pre x xs, l = pre ++ x :: xs → ix l (pre.length : Int) = some x → decide ((pre.length : Int) < (l.length : Int)) = true → I pre (x :: xs) s → (∀ s', I (pre ++ [x]) xs s' → L n s' (w64 ((pre.length : Int) + 1)) = F (pre ++ [x]) xs s') → L (n + 1) s (pre.length : Int) = F pre (x :: xs) s)
    (he : ∀ n s, decide ((l.length : Int) < (l.length : Int)) = false → I l [] s → L (n + 1) s (l.length : Int) = F l [] s) : ∀ n s, I [] l s → l.length < n → L n s 0 = F [] l s := by
  have key : ∀ (xs pre : List α) (n : Nat) (s : σ), l = pre ++ xs → I pre xs s → xs.length < n → L n s (pre.length : Int) = F pre xs s := by
    intro xs
    induction xs with
    | nil =>
      intro pre n s he' hI hn
      obtain ⟨n, rfl⟩ : ∃ k, n = k + 1 := ⟨n - 1, by omega⟩
      simp only [List.append_nil] at he'
      subst he'
      exact he n s (by simp) hI
    | cons x xs ih =>
      intro pre n s he' hI hn
      obtain ⟨n, rfl⟩ : ∃ k, n = k + 1 := ⟨n - 1, by simp at hn; omega⟩
      have hlen : l.length = pre.length + (xs.length + 1) := by rw [he']; simp
      refine hs n s pre x xs he' ?_ (by simp; omega) hI fun s' hI' => ?_
      · rw [ix_nat, he']; simp
      · rw [w64_s _ (by omega)]
        have := ih (pre ++ [x]) n s' (by simp [he']) hI' (by simp at hn; omega)
        simpa using this
  intro n s hI hn
  simpa using key l [] n s rfl hI hn
theorem itm_count {x : Item} (h : itmB x = true) : 1 ≤ x.fCount ∧ x.fCount ≤ 6 := by
  simp only [itmB, Bool.and_eq_true, inb_iff] at h
  omega
theorem cnt_nn {xs : List Item} (h : ∀ x ∈ xs, itmB x = true) : 0 ≤ sumI (xs.map (·.fCount)) := sumI_nn _ _ fun x hx => by have := itm_count (h x hx); omega
theorem s_l6 {fu : Nat} {r : Request} (h : Sm fu r) (hb : bouB r = true) : d_spec_l6Units fu r = some (l6M r) := by
  have hfu := h.fu
  obtain ⟨hi, hs, hl⟩ := bou_items hb
  have e4 : ∀ (k : List Int → Int → Option (List Int)) (i : Int) (x : Item), ix r.fItems i = some x → ∀ (m n : Nat) (c : Int) (out : List Int), 0 ≤ c → c ≤ x.fCount → (x.fCount - c).toNat = m → x.fCount ≤ 6 → m < n → out.length + m ≤ 100 →
      d_spec_l6Units_L1 fu k r i n out c = k (out ++ List.replicate m i) (w64 (i + 1)) := by
    intro k i x hx m
    induction m with
    | zero =>
      intro n c out h0 h1 h2 h3 h4 h5
      obtain ⟨n, rfl⟩ : ∃ j, n = j + 1 := ⟨n - 1, by omega⟩
      rw [d_spec_l6Units_L1_s]
      unfold d_spec_l6Units_L1_B
      rw [hx, ob_some, bif_false (by simp; omega)]
      simp
    | succ m ih =>
      intro n c out h0 h1 h2 h3 h4 h5
      obtain ⟨n, rfl⟩ : ∃ j, n = j + 1 := ⟨n - 1, by omega⟩
      rw [d_spec_l6Units_L1_s]
      unfold d_spec_l6Units_L1_B
      rw [hx, ob_some, bif_true (by simp; omega), ap1 (by simp; omega), ob_some, w64_id (by omega) (by omega), ih n (c + 1) (out ++ [i]) (by omega) (by omega) (by omega) h3 (by omega) (by simp; omega)]
      rw [List.append_assoc, List.singleton_append, ← List.replicate_succ]
  unfold d_spec_l6Units l6M
  have := lpPI r.fItems (fun n out i => d_spec_l6Units_L2 fu r n out i) (fun pre xs out => some (out ++ repU (pre.length : Int) xs)) (fun pre xs out => (out.length : Int) + sumI (xs.map (·.fCount)) ≤ 12 ∧ ∀ x ∈ xs, itmB x = true) (by omega) ?_ ?_ fu [] ⟨by simpa using hs, hi⟩ (by omega)
  · simpa using this
  · intro n out pre x xs hl' hx hd hI ih
    simp only [d_spec_l6Units_L2_s]
    unfold d_spec_l6Units_L2_B
    have hc := itm_count (hI.2 x (by simp))
    have hsum := hI.1
    have hnn := cnt_nn (fun y hy => hI.2 y (by simp [hy]) : ∀ y ∈ xs, itmB y = true)
    simp only [List.map_cons, sumI_cons] at hsum
    have e := e4 (d_spec_l6Units_L2 fu r n) (pre.length : Int) x hx x.fCount.toNat fu 0 out (by omega) (by omega) (by omega) (by omega) (by omega) (by omega)
    rw [hd, cond_true, e, ih _ ⟨by simp; omega, fun y hy => hI.2 y (by simp [hy])⟩]
    simp [repU]
  · intro n out hd hI
    simp only [d_spec_l6Units_L2_s]
    unfold d_spec_l6Units_L2_B
    simp only [hd, cond_false]
    simp [repU]
theorem s_unt {fu : Nat} {r : Request} (h : Sm fu r) : d_spec_Units fu r = some (untM r) := by
  unfold d_spec_Units untM
  rw [s_cls h, ob_some]
  by_cases hc : clsM r = 0
  · rw [bif_false (by simp [hc]), s_l6 h (clsM_zero hc).1, ob_some, bif_true (by simp [hc])]
  · rw [bif_true (by simp [hc]), bif_false (by simp [hc])]
theorem mul6 (fu : Nat) (c : Int) (h : 1 ≤ c ∧ c ≤ 6) : d_bits_Mul fu (IntKind.wrap .u64 1) (IntKind.wrap .u64 c) = some (0, c) := by
  have : c = 1 ∨ c = 2 ∨ c = 3 ∨ c = 4 ∨ c = 5 ∨ c = 6 := by omega
  rcases this with rfl | rfl | rfl | rfl | rfl | rfl <;> rfl
theorem rep_1 (m : Nat) (i : Int) : d_slices_Repeat_int_int_J1 (m + 10) [i] (0, 1) = some (List.replicate 1 i) := by kernel_rfl
theorem rep_2 (m : Nat) (i : Int) : d_slices_Repeat_int_int_J1 (m + 10) [i] (0, 2) = some (List.replicate 2 i) := by kernel_rfl
theorem rep_3 (m : Nat) (i : Int) : d_slices_Repeat_int_int_J1 (m + 10) [i] (0, 3) = some (List.replicate 3 i) := by kernel_rfl
theorem rep_4 (m : Nat) (i : Int) : d_slices_Repeat_int_int_J1 (m + 10) [i] (0, 4) = some (List.replicate 4 i) := by kernel_rfl
theorem rep_5 (m : Nat) (i : Int) : d_slices_Repeat_int_int_J1 (m + 10) [i] (0, 5) = some (List.replicate 5 i) := by kernel_rfl
theorem rep_6 (m : Nat) (i : Int) : d_slices_Repeat_int_int_J1 (m + 10) [i] (0, 6) = some (List.replicate 6 i) := by kernel_rfl
theorem rep6 {fu : Nat} (hfu : 10 ≤ fu) (i c : Int) (h : 1 ≤ c ∧ c ≤ 6) : d_slices_Repeat_int_int fu [i] c = some (List.replicate c.toNat i) := by
  unfold d_slices_Repeat_int_int d_slices_Repeat_int_int_J2
  rw [bif_false (by simp; omega)]
  rw [show (([i] : List Int).length : Int) = 1 from rfl, mul6 fu c h, ob_some, bif_false (by simp), bif_false (by simp; omega)]
  obtain ⟨m, rfl⟩ : ∃ m, fu = m + 10 := ⟨fu - 10, by omega⟩
  have : c = 1 ∨ c = 2 ∨ c = 3 ∨ c = 4 ∨ c = 5 ∨ c = 6 := by omega
  rcases this with rfl | rfl | rfl | rfl | rfl | rfl
  · exact rep_1 m i
  · exact rep_2 m i
  · exact rep_3 m i
  · exact rep_4 m i
  · exact rep_5 m i
  · exact rep_6 m i
theorem i_unt {fu : Nat} {r : Request} (h : Sm fu r) : d_impl_Units fu r = some (untM r) := by
  have hfu := h.fu
  unfold d_impl_Units untM
  rw [i_sound h, ob_some]
  by_cases hc : clsM r = 0
  · obtain ⟨hi, hs, hl⟩ := bou_items (clsM_zero hc).1
    rw [bif_false (by simp [hc]), bif_true (by simp [hc])]
    unfold l6M
    have := lpPI r.fItems (fun n out i => d_impl_Units_L1 fu r n out i) (fun pre xs out => some (out ++ repU (pre.length : Int) xs)) (fun pre xs out => (out.length : Int) + sumI (xs.map (·.fCount)) ≤ 12 ∧ ∀ x ∈ xs, itmB x = true) (by omega) ?_ ?_ fu [] ⟨by simpa using hs, hi⟩ (by omega)
    · simpa using this
    · intro n out pre x xs hl' hx hd hI ih
      simp only [d_impl_Units_L1_s]
      unfold d_impl_Units_L1_B
      have hc := itm_count (hI.2 x (by simp))
      have hsum := hI.1
      have hnn := cnt_nn (fun y hy => hI.2 y (by simp [hy]) : ∀ y ∈ xs, itmB y = true)
      simp only [List.map_cons, sumI_cons] at hsum
      rw [hd, cond_true, hx, ob_some, rep6 (by omega) _ _ hc, ob_some, ap1 (by simp; omega), ob_some, ih _ ⟨by simp; omega, fun y hy => hI.2 y (by simp [hy])⟩]
      simp [repU]
    · intro n out hd hI
      simp only [d_impl_Units_L1_s]
      unfold d_impl_Units_L1_B
      simp only [hd, cond_false]
      simp [repU]
  · rw [bif_true (by simp [hc]), bif_false (by simp [hc])]
end Go.Proofs.YthjbcfefkdbgoaaGreat
