/- The plain law of FnExactLight. -/
import Derived.Test.YtfhmhbcnijlfaaaExactLightW1
import Derived.Test.YtfhmhbcnijlfaaaQ1
import Derived.Test.YtfhmhbcnijlfaaaD1
import Derived.Test.YtfhmhbcnijlfaaaExactLightPBoxS
import Derived.Test.YtfhmhbcnijlfaaaExactLightPBoxesOk
namespace Go.Proofs.Ytfhmhbcnijlfaaa
open Go
open Enc (rd ow)
open Arg (argv)
open Ret (retv)
open Wf (wf)
theorem toPallet_eq (fu : Nat) (a : Pallet) : d_laws_toPallet fu a = some a := by
  unfold d_laws_toPallet; rfl
def gramSum (l : List Box) (n : Int) : Int := l.foldl (fun n b => w64 (n + b.fGram)) n
theorem specLight_eq (fu : Nat) (p : Pallet) (l : List Box) (h : l.length ≤ 1048576) (hf : l.length < fu) :
    d_spec_Light fu p l = some (boxesB p l && decide (gramSum l 0 ≤ p.fGram)) := by
  unfold d_spec_Light
  rw [specBoxesOk_eq fu p l h hf, ob_some]
  cases boxesB p l
  · rfl
  simp only [Bool.not_true, cond_false, Bool.true_and]
  rw [loopF l (fun n s i => d_spec_Light_L1 fu p l n s i) (fun n b => w64 (n + b.fGram)) (fun n => some (decide (n ≤ p.fGram))) ?_ ?_ fu 0 hf]
  · rfl
  · intro n s i x hx hi
    simp only [d_spec_Light_L1_s]
    unfold d_spec_Light_L1_B
    rw [bif_true (by simpa using hi), ob_of (ix_at hx), w64_id (n := (i : Int) + 1) (by omega) (by omega)]
    rfl
  · intro n s
    simp only [d_spec_Light_L1_s]
    unfold d_spec_Light_L1_B
    rw [bif_false (by simp)]
theorem implLight_eq (fu : Nat) (p : Pallet) (l : List Box) (h : l.length ≤ 1048576) (hf : l.length < fu) :
    d_impl_Light fu p l = some (boxesB p l && decide (l.foldl (fun n b => w64 (n + (if 100000 < b.fGram then 100000 else b.fGram))) 0 ≤ p.fGram)) := by
  unfold d_impl_Light
  rw [loopF l (fun n s i => d_impl_Light_L1 fu p l n s i) (fun n b => w64 (n + (if 100000 < b.fGram then 100000 else b.fGram))) (fun n => some (boxesB p l && decide (n ≤ p.fGram))) ?_ ?_ fu 0 hf]
  · intro n s i x hx hi
    simp only [d_impl_Light_L1_s]
    unfold d_impl_Light_L1_B
    rw [bif_true (by simpa using hi), ob_of (ix_at hx), w64_id (n := (i : Int) + 1) (by omega) (by omega)]
    rfl
  · intro n s
    simp only [d_impl_Light_L1_s]
    unfold d_impl_Light_L1_B
    rw [bif_false (by simp), implBoxesOk_eq fu p l h hf, ob_some]
    cases boxesB p l <;> rfl
theorem light_eq (fu : Nat) (p : Pallet) (l : List Box) (h : l.length ≤ 1048576) (hf : l.length < fu) : d_impl_Light fu p l = d_spec_Light fu p l := by
  rw [specLight_eq fu p l h hf, implLight_eq fu p l h hf]
  cases hb : boxesB p l
  · rfl
  congr 2
  unfold gramSum
  have hall : ∀ b ∈ l, b.fGram ≤ 100000 := by
    simp only [boxesB, palletB, Bool.and_eq_true, List.all_eq_true, boxB, inB_iff] at hb
    intro b hm
    have := (hb.2 b hm).2.2.2
    omega
  have : ∀ (l : List Box) (n : Int), (∀ b ∈ l, b.fGram ≤ 100000) → l.foldl (fun n b => w64 (n + (if 100000 < b.fGram then 100000 else b.fGram))) n = l.foldl (fun n b => w64 (n + b.fGram)) n := by
    intro l
    induction l with
    | nil => intro _ _; rfl
    | cons x xs ih =>
      intro n hx
      simp only [List.foldl_cons]
      rw [if_neg (by have := hx x (by simp); omega)]
      exact ih _ (fun b hb => hx b (by simp [hb]))
  rw [this l 0 hall]
theorem fnExactLight_pure (p : Pallet) (l : List Box) (_ : wf p) (hw : wf l) : ∃ fu, d_laws_FnExactLight fu p l = some true := by
  refine ⟨1048577, ?_⟩
  unfold d_laws_FnExactLight
  rw [szBoxS_eq _ _ _ hw.1 (by omega) (by omega), ob_some]
  by_cases h : (1048576 : Int) < l.length
  · rw [if_pos h, bif_true (by simp)]
  · rw [if_neg h, bif_false (by simp; omega)]
    have hl : l.length ≤ 1048576 := by omega
    have hf : l.length < 1048577 := by omega
    simp only [toPallet_eq, toBoxS_eq 1048577 l hl hf, ob_some, light_eq 1048577 p l hl hf, specLight_eq 1048577 p l hl hf, eqBoxS_refl 1048577 l hl hf]
    simp
end Go.Proofs.Ytfhmhbcnijlfaaa
