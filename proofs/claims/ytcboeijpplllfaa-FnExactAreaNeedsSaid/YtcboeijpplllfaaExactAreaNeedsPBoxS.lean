/- Lists of boxes: their size, copies, equality. -/
import Derived.Test.YtcboeijpplllfaaExactAreaNeedsW1
import Derived.Test.YtcboeijpplllfaaQ1
import Derived.Test.YtcboeijpplllfaaD1
namespace Go.Proofs.Ytcboeijpplllfaa
open Go
open Enc (rd ow)
open Arg (argv)
open Ret (retv)
open Wf (wf)
theorem szBoxS_eq (fu : Nat) (l : List Box) (left : Int) (hl : l.length ≤ maxLen) (h1 : 0 ≤ left) (h2 : left ≤ 1048576) :
    d_laws_szBoxS fu l left = some (if left < l.length then -1 else left - l.length) := by
  unfold d_laws_szBoxS
  have : (l.length : Int) ≤ 9223372036854775807 := by simp only [maxLen] at hl; omega
  rw [w64_id (by omega) (by omega)]
  by_cases h : left < l.length
  · rw [bif_true (by simp; omega), if_pos h]
  · rw [bif_false (by simp; omega), if_neg h]
theorem toBox_eq (fu : Nat) (a : Box) : d_laws_toBox fu a = some a := by
  unfold d_laws_toBox; rfl
theorem eqBox_refl (fu : Nat) (a : Box) : d_laws_eqBox fu a a = some true := by
  unfold d_laws_eqBox; simp
theorem toBoxS_eq (fu : Nat) (l : List Box) (h : l.length ≤ 1048576) (hf : l.length < fu) : d_laws_toBoxS fu l = some l := by
  unfold d_laws_toBoxS
  rw [mk_some (by omega), ob_some]
  rw [loopM l _ (fun n out i => d_laws_toBoxS_L1 fu l n out i) id some ?_ ?_ fu hf]
  · simp
  · intro n out i x hx hi ho
    simp only [d_laws_toBoxS_L1_s]
    unfold d_laws_toBoxS_L1_B
    rw [bif_true (by simpa using hi), ob_of (ix_at hx), toBox_eq, ob_some]
    obtain ⟨y, hy⟩ : ∃ y, out[i]? = some y := ⟨_, List.getElem?_eq_getElem (by omega)⟩
    rw [ob_of (ix_at hy), w64_id (by omega) (by omega)]
    simp [setx]
  · intro n out
    simp only [d_laws_toBoxS_L1_s]
    unfold d_laws_toBoxS_L1_B
    rw [bif_false (by simp)]
theorem eqBoxS_refl (fu : Nat) (l : List Box) (h : l.length ≤ 1048576) (hf : l.length < fu) : d_laws_eqBoxS fu l l = some true := by
  unfold d_laws_eqBoxS
  rw [bif_false (by simp)]
  rw [loopF l (fun n (_ : Unit) i => d_laws_eqBoxS_L1 fu l l n i) (fun _ _ => ()) (fun _ => some true) ?_ ?_ fu () hf]
  · intro n s i x hx hi
    simp only [d_laws_eqBoxS_L1_s]
    unfold d_laws_eqBoxS_L1_B
    rw [bif_true (by simpa using hi), ob_of (ix_at hx), ob_of (ix_at hx), eqBox_refl, ob_some, bif_false (by simp), w64_id (by omega) (by omega)]
    rfl
  · intro n s
    simp only [d_laws_eqBoxS_L1_s]
    unfold d_laws_eqBoxS_L1_B
    rw [bif_false (by simp)]
end Go.Proofs.Ytcboeijpplllfaa
