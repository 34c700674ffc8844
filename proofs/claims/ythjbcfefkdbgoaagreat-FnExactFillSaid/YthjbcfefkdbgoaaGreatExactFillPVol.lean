/- Volumes of units, by spec and by impl. -/
import Derived.Test.YthjbcfefkdbgoaaGreatExactFillW5
import Derived.Test.YthjbcfefkdbgoaaGreatM1
import Derived.Test.YthjbcfefkdbgoaaGreatExactFillPUnt
namespace Go.Proofs.YthjbcfefkdbgoaaGreat
open Go

theorem vol3 {w h d : Int} (hb : (inb w 0 2000 && (inb h 0 2000 && inb d 0 2000)) = true) : w64 ((w64 (w * h)) * d) = w * h * d := by
  simp only [Bool.and_eq_true, inb_iff] at hb
  obtain ⟨⟨h1, h2⟩, ⟨h3, h4⟩, h5, h6⟩ := hb
  have a1 : 0 ≤ w * h := Int.mul_nonneg h1 h3
  have a2 : w * h ≤ 2000 * 2000 := Int.mul_le_mul h2 h4 h3 (by omega)
  have a3 : 0 ≤ w * h * d := Int.mul_nonneg a1 h5
  have a4 : w * h * d ≤ 2000 * 2000 * 2000 := Int.mul_le_mul a2 h6 h5 (by omega)
  rw [w64_id (n := w * h) (by omega) (by omega), w64_id (by omega) (by omega)]
theorem s_vol (fu : Nat) (w h d : Int) : d_spec_Volume fu w h d = some (volB w h d) := by
  unfold d_spec_Volume d_spec_Volume_J1 volB
  simp only [s_in, ob_some]
  cases h1 : inb w 0 2000 <;> cases h2 : inb h 0 2000 <;> cases h3 : inb d 0 2000 <;> simp only [Bool.not_true, Bool.not_false, cond_true, cond_false, Bool.and_true, Bool.and_false]
  rw [vol3 (by simp only [h1, h2, h3]; rfl)]
theorem i_vol (fu : Nat) (w h d : Int) : d_impl_Volume fu w h d = some (volB w h d) := by
  unfold d_impl_Volume d_impl_Volume_J1 volB
  simp only [i_in, ob_some]
  cases h1 : inb w 0 2000 <;> cases h2 : inb h 0 2000 <;> cases h3 : inb d 0 2000 <;> simp only [Bool.not_true, Bool.not_false, cond_true, cond_false, Bool.and_true, Bool.and_false]
  rw [vol3 (by simp only [h1, h2, h3]; rfl)]
/-- the item of a unit; none is a zero -/
def itmZ (r : Request) (u : Int) : Item := (itmM r u).getD zItem
theorem w64_len (r : Request) : w64 (((untM r).length : Int) - 1) = ((untM r).length : Int) - 1 := by
  have := untM_len r
  exact w64_id (by omega) (by omega)
theorem s_item (fu : Nat) (r : Request) (u : Int) : d_spec_l6Item fu r (untM r) u = some (itmZ r u, (itmM r u).isSome) := by
  unfold d_spec_l6Item itmZ
  rw [w64_len, s_in, ob_some]
  by_cases h : 0 ≤ u ∧ u < (untM r).length
  · obtain ⟨i, x, h1, h2, h3⟩ := itmM_in h
    rw [bif_false (by simp; omega), h1, ob_some, h2, ob_some, h3]
    rfl
  · rw [bif_true (by simp [inb]; omega), itmM_out h]
    rfl
theorem vol_zero : volI zItem = 0 := by simp [volI, volB, zItem]
theorem s_volOf {fu : Nat} {r : Request} (h : Sm fu r) (us : List Int) (hl : us.length ≤ 1048576) (hf : us.length < fu) : d_spec_VolumeOf fu r us = some (volM r us) := by
  unfold d_spec_VolumeOf
  rw [s_unt h, ob_some]
  have key := lpI us (fun n s i => d_spec_VolumeOf_L7 fu r us (untM r) n s i) (fun l n => some (n + volM r l)) (fun l n => 0 ≤ n ∧ n + 8000000000 * l.length ≤ 8000000000 * 1048576) (by omega) ?_ ?_ fu 0 ⟨by omega, by omega⟩ hf
  · simpa using key
  · intro n s i x xs hx hd hI ih
    simp only [d_spec_VolumeOf_L7_s]
    unfold d_spec_VolumeOf_L7_B d_spec_VolumeOf_J10 d_spec_VolumeOf_J9
    simp only [hd, cond_true, hx, ob_some, s_item, s_vol]
    have hv := volB_nn (itmZ r x).fW (itmZ r x).fH (itmZ r x).fD
    have h2 := hI.2
    simp only [List.length_cons] at h2
    rw [w64_id (by omega) (by omega), ih _ ⟨by omega, by omega⟩]
    congr 1
    have e : volM r (x :: xs) = volI (itmZ r x) + volM r xs := by
      unfold volM itsM itmZ
      cases hm : itmM r x with
      | none => simp [List.filterMap_cons, hm, vol_zero]
      | some y => simp [List.filterMap_cons, hm]
    rw [e, show volB (itmZ r x).fW (itmZ r x).fH (itmZ r x).fD = volI (itmZ r x) from rfl]
    omega
  · intro n s i hd _
    simp only [d_spec_VolumeOf_L7_s]
    unfold d_spec_VolumeOf_L7_B
    simp only [hd, cond_false]
    simp [volM, itsM]
theorem i_items {fu : Nat} {r : Request} (h : Sm fu r) (us : List Int) (hl : us.length ≤ 1048576) (hf : us.length < fu) : d_impl_itemsOf fu r us = some (itsM r us) := by
  unfold d_impl_itemsOf
  rw [i_unt h, ob_some]
  have key := lpI us (fun n s i => d_impl_itemsOf_L3 fu r us (untM r) n s i) (fun l out => some (out ++ itsM r l)) (fun l out => out.length + l.length ≤ 1048576) (by omega) ?_ ?_ fu [] (by simpa using hl) hf
  · simpa using key
  · intro n s i x xs hx hd hI ih
    simp only [d_impl_itemsOf_L3_s]
    unfold d_impl_itemsOf_L3_B d_impl_itemsOf_J4
    simp only [hd, cond_true, hx, ob_some, w64_len, i_in]
    simp only [List.length_cons] at hI
    by_cases hu : 0 ≤ x ∧ x < (untM r).length
    · obtain ⟨i', y, h1, h2, h3⟩ := itmM_in hu
      rw [bif_true (by simp; omega), h1, ob_some, h2, ob_some, ap1 (by simp; omega), ob_some, ih _ (by simp; omega)]
      simp [itsM, List.filterMap_cons, h3]
    · rw [bif_false (by simp [inb]; omega), ih _ (by omega)]
      simp [itsM, List.filterMap_cons, itmM_out hu]
  · intro n s i hd _
    simp only [d_impl_itemsOf_L3_s]
    unfold d_impl_itemsOf_L3_B
    simp only [hd, cond_false]
    simp [itsM]
theorem i_volOf {fu : Nat} {r : Request} (h : Sm fu r) (us : List Int) (hl : us.length ≤ 1048576) (hf : us.length < fu) : d_impl_VolumeOf fu r us = some (volM r us) := by
  unfold d_impl_VolumeOf
  rw [i_items h us hl hf, ob_some]
  have hlen := itsM_len r us
  have key := lpI (itsM r us) (fun n s i => d_impl_VolumeOf_L1 fu (itsM r us) n s i) (fun l n => some (n + sumI (l.map volI))) (fun l n => 0 ≤ n ∧ n + 8000000000 * l.length ≤ 8000000000 * 1048576) (by omega) ?_ ?_ fu 0 ⟨by omega, by omega⟩ (by omega)
  · simpa [volM] using key
  · intro n s i x xs hx hd hI ih
    simp only [d_impl_VolumeOf_L1_s]
    unfold d_impl_VolumeOf_L1_B
    simp only [hd, cond_true, hx, ob_some, i_vol]
    have hv := volB_nn x.fW x.fH x.fD
    have h2 := hI.2
    simp only [List.length_cons] at h2
    rw [w64_id (by omega) (by omega), ih _ ⟨by omega, by omega⟩]
    simp only [List.map_cons, sumI_cons, volI]
    congr 1
    omega
  · intro n s i hd _
    simp only [d_impl_VolumeOf_L1_s]
    unfold d_impl_VolumeOf_L1_B
    simp only [hd, cond_false]
    simp
end Go.Proofs.YthjbcfefkdbgoaaGreat
