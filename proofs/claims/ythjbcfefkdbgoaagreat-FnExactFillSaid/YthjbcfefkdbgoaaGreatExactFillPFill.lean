/- Fill of spec and of impl. -/
import Derived.Test.YthjbcfefkdbgoaaGreatExactFillW5
import Derived.Test.YthjbcfefkdbgoaaGreatM1
import Derived.Test.YthjbcfefkdbgoaaGreatExactFillPVol
namespace Go.Proofs.YthjbcfefkdbgoaaGreat
open Go
/-- how full a carton is, in thousandths -/
def filM (r : Request) (x : Carton) : Int :=
  bif clsM r == 0 then (match typM r x.fType with | some t => Int.tdiv (1000 * volM r x.fUnits) (volT t) | none => 0) else 0
theorem fill_step {r : Request} {t : Typ} {us : List Int} (hc : clsM r = 0) (ht : t ∈ r.fTypes) (hl : us.length ≤ 1048576) :
    (obind (odiv (volT t)) fun _ => some (w64 (Int.tdiv (w64 (1000 * volM r us)) (volT t)))) = some (Int.tdiv (1000 * volM r us) (volT t)) := by
  have h1 := volT_pos (bou_types (clsM_zero hc).1 t ht)
  have h2 := volM_bd r us
  have h3 := volB_nn t.fW t.fH t.fD
  have h4 : volT t ≤ 8000000000 := h3.2
  rw [odiv_ok (by omega), ob_some, w64_id (n := 1000 * volM r us) (by omega) (by omega)]
  have h5 : 0 ≤ Int.tdiv (1000 * volM r us) (volT t) := Int.tdiv_nonneg (by omega) (by omega)
  have h6 : Int.tdiv (1000 * volM r us) (volT t) ≤ 1000 * volM r us := by
    rw [Int.tdiv_eq_ediv_of_nonneg (by omega)]
    exact Int.ediv_le_self _ (by omega)
  rw [w64_id (by omega) (by omega)]
theorem s_fill {fu : Nat} {r : Request} (h : Sm fu r) (x : Carton) (hl : x.fUnits.length ≤ 1048576) : d_spec_Fill fu r x = some (filM r x) := by
  have hfu := h.fu
  unfold d_spec_Fill d_spec_Fill_J1 filM
  rw [s_typById h, ob_some, s_cls h, ob_some]
  by_cases hc : clsM r = 0
  · rw [show (clsM r != 0) = false by simp [hc], show (clsM r == 0) = true by simp [hc], cond_false, cond_true]
    cases ht : typM r x.fType with
    | none => rfl
    | some t =>
      have hm : t ∈ r.fTypes := List.mem_of_find?_eq_some ht
      simp only [othM, Bool.not_true, cond_false]
      rw [s_volOf h _ hl (by omega), ob_some, s_vol, ob_some]
      exact fill_step hc hm hl
  · rw [show (clsM r != 0) = true by simp [hc], show (clsM r == 0) = false by simp [hc], cond_false, cond_true]
theorem i_fill {fu : Nat} {r : Request} (h : Sm fu r) (x : Carton) (hl : x.fUnits.length ≤ 1048576) : d_impl_Fill fu r x = some (filM r x) := by
  have hfu := h.fu
  unfold d_impl_Fill d_impl_Fill_J1 filM
  rw [i_typById h, ob_some, i_sound h]
  cases ht : typM r x.fType with
  | none =>
    simp only [othM, Bool.not_false, cond_true]
    cases clsM r == 0 <;> rfl
  | some t =>
    have hm : t ∈ r.fTypes := List.mem_of_find?_eq_some ht
    simp only [othM, Bool.not_true, cond_false, ob_some]
    by_cases hc : clsM r = 0
    · rw [bif_false (by simp [hc]), bif_true (by simp [hc]), i_volOf h _ hl (by omega), ob_some, i_vol, ob_some]
      exact fill_step hc hm hl
    · rw [bif_true (by simp [hc]), bif_false (by simp [hc])]
end Go.Proofs.YthjbcfefkdbgoaaGreat
