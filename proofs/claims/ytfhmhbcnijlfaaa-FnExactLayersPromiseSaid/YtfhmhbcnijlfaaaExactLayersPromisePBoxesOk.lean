/- PalletOk and BoxesOk of spec and of impl, as one Bool. -/
import Derived.Test.YtfhmhbcnijlfaaaExactLayersPromiseW1
import Derived.Test.YtfhmhbcnijlfaaaQ1
import Derived.Test.YtfhmhbcnijlfaaaD1
import Derived.Test.YtfhmhbcnijlfaaaExactLayersPromisePInn
namespace Go.Proofs.Ytfhmhbcnijlfaaa
open Go
open Enc (rd ow)
open Arg (argv)
open Ret (retv)
open Wf (wf)
def palletB (p : Pallet) : Bool := inB p.fW 1 2000 && (inB p.fD 1 2000 && (inB p.fH 1 2000 && inB p.fGram 1 100000))
def boxB (p : Pallet) (b : Box) : Bool := inB b.fW 1 p.fW && (inB b.fD 1 p.fD && (inB b.fH 1 p.fH && inB b.fGram 1 p.fGram))
def boxesB (p : Pallet) (l : List Box) : Bool := palletB p && l.all (boxB p)
theorem specPalletOk_eq (fu : Nat) (p : Pallet) : d_spec_PalletOk fu p = some (palletB p) := by
  unfold d_spec_PalletOk d_spec_l2Side palletB
  simp only [l1In_eq, ob_some]
  cases inB p.fW 1 2000 <;> cases inB p.fD 1 2000 <;> cases inB p.fH 1 2000 <;> rfl
theorem implPalletOk_eq (fu : Nat) (p : Pallet) : d_impl_PalletOk fu p = some (palletB p) := by
  unfold d_impl_PalletOk d_impl_isSide palletB
  simp only [in_eq, ob_some]
  cases inB p.fW 1 2000 <;> cases inB p.fD 1 2000 <;> cases inB p.fH 1 2000 <;> rfl
theorem runE_all {α : Type} (f : α → Bool) : ∀ (l : List α), runE (β := Bool) (fun (_ : Unit) x => bif f x then .ok () else .error (some false)) (fun _ => some true) l () = some (l.all f)
  | [] => rfl
  | x :: xs => by
    simp only [runE, List.all_cons]
    cases h : f x
    · rfl
    · simpa using runE_all f xs
theorem specBoxesOk_eq (fu : Nat) (p : Pallet) (l : List Box) (h : l.length ≤ 1048576) (hf : l.length < fu) : d_spec_BoxesOk fu p l = some (boxesB p l) := by
  unfold d_spec_BoxesOk boxesB
  rw [specPalletOk_eq, ob_some]
  cases palletB p
  · rfl
  simp only [Bool.not_true, cond_false, Bool.true_and]
  rw [← runE_all]
  refine loopE l (fun n (_ : Unit) i => d_spec_BoxesOk_L3 fu p l n i) _ _ ?_ ?_ fu () hf
  · intro n s i x hx hi
    simp only [d_spec_BoxesOk_L3_s]
    unfold d_spec_BoxesOk_L3_B d_spec_BoxesOk_J4
    rw [bif_true (by simpa using hi), ob_of (ix_at hx), w64_id (by omega) (by omega)]
    simp only [l1In_eq, ob_some, boxB]
    cases inB x.fW 1 p.fW <;> cases inB x.fD 1 p.fD <;> cases inB x.fH 1 p.fH <;> cases inB x.fGram 1 p.fGram <;> rfl
  · intro n s
    simp only [d_spec_BoxesOk_L3_s]
    unfold d_spec_BoxesOk_L3_B
    rw [bif_false (by simp)]
theorem boxesOk1_eq (fu : Nat) (b : Box) (p : Pallet) : d_impl_BoxesOk_1 fu b p = some (!boxB p b) := by
  unfold d_impl_BoxesOk_1 boxB
  simp only [in_eq, ob_some]
  cases inB b.fW 1 p.fW <;> cases inB b.fD 1 p.fD <;> cases inB b.fH 1 p.fH <;> rfl
theorem containsBox_eq (fu : Nat) (l : List Box) (f : Box → Option Bool) (g : Box → Bool) (hg : ∀ b, f b = some (g b)) (h : l.length ≤ 1048576) (hf : l.length < fu) :
    d_slices_ContainsFunc_impl_Box_impl_Box fu l f = some (l.any g) := by
  unfold d_slices_ContainsFunc_impl_Box_impl_Box d_slices_IndexFunc_impl_Box_impl_Box
  have key : ∀ (m i n : Nat), l.length - i = m → i ≤ l.length → m < n → ∃ r, d_slices_IndexFunc_impl_Box_impl_Box_L1 fu l f n i = some r ∧ decide (r ≥ 0) = (l.drop i).any g := by
    intro m
    induction m with
    | zero =>
      intro i n hm hi hn
      obtain ⟨n, rfl⟩ : ∃ k, n = k + 1 := ⟨n - 1, by omega⟩
      rw [d_slices_IndexFunc_impl_Box_impl_Box_L1_s]
      unfold d_slices_IndexFunc_impl_Box_impl_Box_L1_B
      rw [bif_false (by simp; omega), List.drop_eq_nil_of_le (by omega)]
      exact ⟨_, rfl, rfl⟩
    | succ m ih =>
      intro i n hm hi hn
      obtain ⟨n, rfl⟩ : ∃ k, n = k + 1 := ⟨n - 1, by omega⟩
      have hlt : i < l.length := by omega
      rw [d_slices_IndexFunc_impl_Box_impl_Box_L1_s]
      unfold d_slices_IndexFunc_impl_Box_impl_Box_L1_B
      rw [bif_true (by simpa using hlt), ob_of (ix_at (List.getElem?_eq_getElem hlt)), hg, ob_some, List.drop_eq_getElem_cons hlt, List.any_cons]
      cases hgx : g l[i]
      · rw [bif_false rfl, w64_id (by omega) (by omega), Bool.false_or]
        have := ih (i + 1) n (by omega) (by omega) (by omega)
        simpa using this
      · rw [bif_true rfl]
        exact ⟨_, rfl, by simp⟩
  obtain ⟨r, h1, h2⟩ := key l.length 0 fu (by omega) (by omega) hf
  have h1' : d_slices_IndexFunc_impl_Box_impl_Box_L1 fu l f fu 0 = some r := h1
  rw [h1', ob_some, h2]
  rfl
theorem implBoxesOk_eq (fu : Nat) (p : Pallet) (l : List Box) (h : l.length ≤ 1048576) (hf : l.length < fu) : d_impl_BoxesOk fu p l = some (boxesB p l) := by
  unfold d_impl_BoxesOk boxesB
  rw [implPalletOk_eq, ob_some]
  cases palletB p
  · rfl
  rw [bif_true rfl, containsBox_eq fu l _ (fun b => !boxB p b) (fun b => boxesOk1_eq fu b p) h hf, ob_some, Bool.true_and]
  congr 1
  induction l with
  | nil => rfl
  | cons x xs ih =>
    simp only [List.any_cons, List.all_cons, Bool.not_or, Bool.not_not]
    rw [ih (by simp at h; omega) (by simp at hf; omega)]
end Go.Proofs.Ytfhmhbcnijlfaaa
