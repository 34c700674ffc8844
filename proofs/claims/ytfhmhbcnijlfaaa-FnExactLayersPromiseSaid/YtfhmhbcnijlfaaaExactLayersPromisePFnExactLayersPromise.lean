/- The plain law of FnExactLayersPromise. -/
import Derived.Test.YtfhmhbcnijlfaaaExactLayersPromiseW1
import Derived.Test.YtfhmhbcnijlfaaaQ1
import Derived.Test.YtfhmhbcnijlfaaaD1
import Derived.Test.YtfhmhbcnijlfaaaExactLayersPromisePBoxS
import Derived.Test.YtfhmhbcnijlfaaaExactLayersPromisePBoxesOk
namespace Go.Proofs.Ytfhmhbcnijlfaaa
open Go
open Enc (rd ow)
open Arg (argv)
open Ret (retv)
open Wf (wf)
theorem toPallet_eq (fu : Nat) (a : Pallet) : d_laws_toPallet fu a = some a := by
  unfold d_laws_toPallet; rfl
theorem fnExactLayersPromise_pure (p : Pallet) (l : List Box) (n : Int) (_ : wf p) (hw : wf l) (_ : wf n) : ∃ fu, d_laws_FnExactLayersPromise fu p l n = some true := by
  refine ⟨1048577, ?_⟩
  unfold d_laws_FnExactLayersPromise
  rw [szBoxS_eq _ _ _ hw.1 (by omega) (by omega), ob_some]
  by_cases h : (1048576 : Int) < l.length
  · rw [if_pos h, bif_true (by simp)]
  · rw [if_neg h, bif_false (by simp; omega)]
    have hl : l.length ≤ 1048576 := by omega
    have hf : l.length < 1048577 := by omega
    have hs : ∃ r, d_spec_LayersPromise 1048577 p l n = some r ∧ d_impl_LayersPromise 1048577 p l n = some r := by
      unfold d_spec_LayersPromise d_impl_LayersPromise
      simp only [specBoxesOk_eq 1048577 p l hl hf, implBoxesOk_eq 1048577 p l hl hf, ob_some, l1In_eq, in_eq]
      cases boxesB p l <;> cases inB n 0 1000 <;> exact ⟨_, rfl, rfl⟩
    obtain ⟨r, h1, h2⟩ := hs
    simp only [toPallet_eq, toBoxS_eq 1048577 l hl hf, ob_some, h1, h2, eqBoxS_refl 1048577 l hl hf]
    simp
end Go.Proofs.Ytfhmhbcnijlfaaa
