/- AreaOf of spec and of impl. -/
import Derived.Test.YtcboeijpplllfaaExactDepthPromiseW1
import Derived.Test.YtcboeijpplllfaaQ1
import Derived.Test.YtcboeijpplllfaaD1
import Derived.Test.YtcboeijpplllfaaExactDepthPromisePInn
namespace Go.Proofs.Ytcboeijpplllfaa
open Go
open Enc (rd ow)
open Arg (argv)
open Ret (retv)
open Wf (wf)
def boxArea (b : Box) : Int := if inB b.fW 0 2000 = true ∧ inB b.fD 0 2000 = true then b.fW * b.fD else 0
theorem boxArea_le (b : Box) : 0 ≤ boxArea b ∧ boxArea b ≤ 4000000 := by
  unfold boxArea
  by_cases h : inB b.fW 0 2000 = true ∧ inB b.fD 0 2000 = true
  · rw [if_pos h]
    simp only [inB_iff] at h
    refine ⟨Int.mul_nonneg h.1.1 h.2.1, ?_⟩
    have := Int.mul_le_mul h.1.2 h.2.2 h.2.1 (by omega : (0 : Int) ≤ 2000)
    omega
  · rw [if_neg h]; omega
def areaOf (l : List Box) : Int := l.foldl (fun n b => n + boxArea b) 0
theorem specAreaOf_eq (fu : Nat) (l : List Box) (h : l.length ≤ 1048576) (hf : l.length < fu) : d_spec_AreaOf fu l = some (areaOf l) := by
  unfold d_spec_AreaOf
  refine (loopI l (fun n s i => d_spec_AreaOf_L3 fu l n s i) (fun n b => n + boxArea b) some (fun i n => 0 ≤ n ∧ n ≤ i * 4000000) ?_ ?_ fu 0 (by simp) hf).1
  · intro n s i x hx hi hI
    have hb := boxArea_le x
    have hI1 := hI.1
    have hI2 := hI.2
    have he : w64 ((i : Int) + 1) = ((i + 1 : Nat) : Int) := by rw [w64_id (by omega) (by omega)]; omega
    refine ⟨?_, by omega, by push_cast; omega⟩
    simp only [d_spec_AreaOf_L3_s]
    unfold d_spec_AreaOf_L3_B d_spec_AreaOf_J4
    rw [bif_true (by simpa using hi)]
    simp only [ob_of (ix_at hx), l1In_eq, ob_some, he]
    unfold boxArea at hb ⊢
    cases h1 : inB x.fW 0 2000
    · simp
    · cases h2 : inB x.fD 0 2000
      · simp
      · rw [if_pos ⟨h1, h2⟩] at hb
        simp only [cond_true, and_self, if_true]
        rw [w64_id (n := x.fW * x.fD) (by omega) (by omega), w64_id (by omega) (by omega)]
  · intro n s hI
    simp only [d_spec_AreaOf_L3_s]
    unfold d_spec_AreaOf_L3_B
    rw [bif_false (by simp)]
theorem implVolume1_eq (fu : Nat) (b : Box) : d_impl_Volume fu b.fW 1 b.fD = some (boxArea b) := by
  have hb := boxArea_le b
  unfold d_impl_Volume d_impl_Volume_J1
  simp only [in_eq, ob_some]
  unfold boxArea at hb ⊢
  cases h1 : inB b.fW 0 2000
  · simp
  · cases h2 : inB b.fD 0 2000
    · have : inB 1 0 2000 = true := by decide
      simp [this]
    · have : inB 1 0 2000 = true := by decide
      rw [if_pos ⟨h1, h2⟩] at hb
      simp only [this, Bool.not_true, cond_false, and_self, if_true, Int.mul_one]
      rw [w64_id (n := b.fW) (by simp only [inB_iff] at h1; omega) (by simp only [inB_iff] at h1; omega), w64_id (by omega) (by omega)]
theorem implAreaOf_eq (fu : Nat) (l : List Box) (h : l.length ≤ 1048576) (hf : l.length < fu) : d_impl_AreaOf fu l = some (areaOf l) := by
  unfold d_impl_AreaOf
  refine (loopI l (fun n s i => d_impl_AreaOf_L1 fu l n s i) (fun n b => n + boxArea b) some (fun i n => 0 ≤ n ∧ n ≤ i * 4000000) ?_ ?_ fu 0 (by simp) hf).1
  · intro n s i x hx hi hI
    have hb := boxArea_le x
    have hI1 := hI.1
    have hI2 := hI.2
    have he : w64 ((i : Int) + 1) = ((i + 1 : Nat) : Int) := by rw [w64_id (by omega) (by omega)]; omega
    refine ⟨?_, by omega, by push_cast; omega⟩
    simp only [d_impl_AreaOf_L1_s]
    unfold d_impl_AreaOf_L1_B
    rw [bif_true (by simpa using hi)]
    simp only [ob_of (ix_at hx), implVolume1_eq, ob_some, he]
    rw [w64_id (n := s + boxArea x) (by omega) (by omega)]
  · intro n s hI
    simp only [d_impl_AreaOf_L1_s]
    unfold d_impl_AreaOf_L1_B
    rw [bif_false (by simp)]
end Go.Proofs.Ytcboeijpplllfaa
