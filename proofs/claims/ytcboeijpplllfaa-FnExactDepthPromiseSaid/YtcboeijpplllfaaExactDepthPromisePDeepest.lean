/- Deepest of spec and of impl. -/
import Derived.Test.YtcboeijpplllfaaExactDepthPromiseW1
import Derived.Test.YtcboeijpplllfaaQ1
import Derived.Test.YtcboeijpplllfaaD1
namespace Go.Proofs.Ytcboeijpplllfaa
open Go
open Enc (rd ow)
open Arg (argv)
open Ret (retv)
open Wf (wf)
def deepest (l : List Box) : Int := l.foldl (fun n b => if b.fD > n then b.fD else n) 0
theorem implDeepest_eq (fu : Nat) (l : List Box) (h : l.length ≤ 1048576) (hf : l.length < fu) : d_impl_Deepest fu l = some (deepest l) := by
  unfold d_impl_Deepest
  rw [loopF l (fun n s i => d_impl_Deepest_L1 fu l n s i) (fun n b => if b.fD > n then b.fD else n) some ?_ ?_ fu 0 hf]
  · rfl
  · intro n s i x hx hi
    simp only [d_impl_Deepest_L1_s]
    unfold d_impl_Deepest_L1_B
    rw [bif_true (by simpa using hi), ob_of (ix_at hx), w64_id (by omega) (by omega)]
    rfl
  · intro n s
    simp only [d_impl_Deepest_L1_s]
    unfold d_impl_Deepest_L1_B
    rw [bif_false (by simp)]
theorem max_eq (fu : Nat) (a b : Int) : d_spec_l1Max fu a b = some (if b > a then b else a) := by
  unfold d_spec_l1Max
  by_cases h : a > b
  · rw [bif_true (by simpa using h), if_neg (by omega)]
  · rw [bif_false (by simpa using h)]
    by_cases h' : b > a
    · rw [if_pos h']
    · rw [if_neg h', show a = b by omega]
theorem specDeepest_eq (fu : Nat) (l : List Box) (h : l.length ≤ 1048576) (hf : l.length < fu) : d_spec_Deepest fu l = some (deepest l) := by
  unfold d_spec_Deepest
  rw [loopF l (fun n s i => d_spec_Deepest_L1 fu l n s i) (fun n b => if b.fD > n then b.fD else n) some ?_ ?_ fu 0 hf]
  · rfl
  · intro n s i x hx hi
    simp only [d_spec_Deepest_L1_s]
    unfold d_spec_Deepest_L1_B
    rw [bif_true (by simpa using hi), ob_of (ix_at hx), w64_id (by omega) (by omega), max_eq]
    rfl
  · intro n s
    simp only [d_spec_Deepest_L1_s]
    unfold d_spec_Deepest_L1_B
    rw [bif_false (by simp)]
end Go.Proofs.Ytcboeijpplllfaa
