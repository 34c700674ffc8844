/- Cartons in the laws: their size, copies, equality. -/
import Derived.Test.YthjbcfefkdbgoaaGreatExactFillW5
import Derived.Test.YthjbcfefkdbgoaaGreatM1
import Derived.Test.YthjbcfefkdbgoaaGreatExactFillPInts
namespace Go.Proofs.YthjbcfefkdbgoaaGreat
open Go
theorem szCar (fu : Nat) (x : Carton) (left : Int) (hw : wf x) (h1 : 0 ≤ left) (h2 : left ≤ 1048576) :
    (∃ y, d_laws_szCarton fu x left = some y ∧ y < 0) ∨ (d_laws_szCarton fu x left = some (left - x.fUnits.length) ∧ 0 ≤ left - x.fUnits.length) := by
  unfold d_laws_szCarton
  rw [szIntS fu _ _ hw.2.2.1 h1 h2, ob_some]
  by_cases h : left < x.fUnits.length
  · rw [if_pos h]; exact .inl ⟨-1, by simp, by omega⟩
  · rw [if_neg h, bif_false (by simp; omega)]; exact .inr ⟨rfl, by omega⟩
theorem toCar (fu : Nat) (x : Carton) (h : x.fUnits.length ≤ 1048576) (hf : x.fUnits.length < fu) : d_laws_toCarton fu x = some x := by
  unfold d_laws_toCarton
  rw [toIntS fu _ h hf]; rfl
theorem eqCar (fu : Nat) (x : Carton) (h : x.fUnits.length ≤ 1048576) (hf : x.fUnits.length < fu) : d_laws_eqCarton fu x x = some true := by
  unfold d_laws_eqCarton
  rw [eqIntS fu _ h hf]
  simp
end Go.Proofs.YthjbcfefkdbgoaaGreat
