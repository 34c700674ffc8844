/- 'in' of spec and of impl: between two bounds. -/
import Derived.Test.YtfhmhbcnijlfaaaExactLightW1
import Derived.Test.YtfhmhbcnijlfaaaQ1
import Derived.Test.YtfhmhbcnijlfaaaD1
namespace Go.Proofs.Ytfhmhbcnijlfaaa
open Go
open Enc (rd ow)
open Arg (argv)
open Ret (retv)
open Wf (wf)
def inB (n lo hi : Int) : Bool := decide (lo ≤ n ∧ n ≤ hi)
theorem inB_iff {n lo hi : Int} : inB n lo hi = true ↔ lo ≤ n ∧ n ≤ hi := by simp [inB]
theorem l1In_eq (fu : Nat) (n lo hi : Int) : d_spec_l1In fu n lo hi = some (inB n lo hi) := by
  unfold d_spec_l1In inB
  by_cases h : n ≥ lo
  · rw [bif_true (by simpa using h)]
    have : lo ≤ n := h
    simp [this]
  · rw [bif_false (by simpa using h)]
    have : ¬ lo ≤ n := h
    simp [this]
theorem in_eq (fu : Nat) (n lo hi : Int) : d_impl_in fu n lo hi = some (inB n lo hi) := l1In_eq fu n lo hi
end Go.Proofs.Ytfhmhbcnijlfaaa
