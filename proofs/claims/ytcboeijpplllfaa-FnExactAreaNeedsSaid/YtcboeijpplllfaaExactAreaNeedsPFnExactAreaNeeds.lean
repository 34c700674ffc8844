/- The plain law of FnExactAreaNeeds. -/
import Derived.Test.YtcboeijpplllfaaExactAreaNeedsW1
import Derived.Test.YtcboeijpplllfaaQ1
import Derived.Test.YtcboeijpplllfaaD1
import Derived.Test.YtcboeijpplllfaaExactAreaNeedsPBoxS
import Derived.Test.YtcboeijpplllfaaExactAreaNeedsPBoxesOk
import Derived.Test.YtcboeijpplllfaaExactAreaNeedsPArea
namespace Go.Proofs.Ytcboeijpplllfaa
open Go
open Enc (rd ow)
open Arg (argv)
open Ret (retv)
open Wf (wf)
theorem toPallet_eq (fu : Nat) (a : Pallet) : d_laws_toPallet fu a = some a := by
  unfold d_laws_toPallet; rfl
theorem odiv_ne {y : Int} (h : y ≠ 0) : odiv y = some () := by unfold odiv; rw [if_pos h]
theorem fnExactAreaNeeds_pure (p : Pallet) (l : List Box) (_ : wf p) (hw : wf l) : ∃ fu, d_laws_FnExactAreaNeeds fu p l = some true := by
  refine ⟨1048577, ?_⟩
  unfold d_laws_FnExactAreaNeeds
  rw [szBoxS_eq _ _ _ hw.1 (by omega) (by omega), ob_some]
  by_cases h : (1048576 : Int) < l.length
  · rw [if_pos h, bif_true (by simp)]
  · rw [if_neg h, bif_false (by simp; omega)]
    have hl : l.length ≤ 1048576 := by omega
    have hf : l.length < 1048577 := by omega
    have hs : ∃ r, d_spec_AreaNeeds 1048577 p l = some r ∧ d_impl_AreaNeeds 1048577 p l = some r := by
      unfold d_spec_AreaNeeds d_impl_AreaNeeds d_spec_l8Up d_impl_upBy
      simp only [specBoxesOk_eq 1048577 p l hl hf, implBoxesOk_eq 1048577 p l hl hf, ob_some, specAreaOf_eq 1048577 l hl hf, implAreaOf_eq 1048577 l hl hf]
      cases hb : boxesB p l
      · exact ⟨_, rfl, rfl⟩
      · simp only [boxesB, palletB, Bool.and_eq_true, inB_iff] at hb
        obtain ⟨⟨hW, hD, _⟩, _⟩ := hb
        have h1 : 0 < p.fW * p.fD := Int.mul_pos (by omega) (by omega)
        have h2 := Int.mul_le_mul hW.2 hD.2 (by omega) (by omega : (0 : Int) ≤ 2000)
        have h3 : w64 (p.fW * p.fD) = p.fW * p.fD := w64_id (by omega) (by omega)
        rw [h3, odiv_ne (by omega)]
        exact ⟨_, rfl, rfl⟩
    obtain ⟨r, h1, h2⟩ := hs
    simp only [toPallet_eq, toBoxS_eq 1048577 l hl hf, ob_some, h1, h2, eqBoxS_refl 1048577 l hl hf]
    simp
end Go.Proofs.Ytcboeijpplllfaa
