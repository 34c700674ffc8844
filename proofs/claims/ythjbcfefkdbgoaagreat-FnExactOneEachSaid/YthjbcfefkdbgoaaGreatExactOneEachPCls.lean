/- The first layers of spec and of impl: bounds, table, names, fitting, the reason, the units. Each is the plain function of M0. -/
import Derived.Test.YthjbcfefkdbgoaaGreatExactOneEachW6
import Derived.Test.YthjbcfefkdbgoaaGreatM2
namespace Go.Proofs.YthjbcfefkdbgoaaGreat
open Go

/-- an order that is not too great, and fuel enough -/
structure Sm (fu : Nat) (r : Request) : Prop where
  fu : 2097153 ≤ fu
  pairs : r.fPairs.length ≤ 1048576
  types : r.fTypes.length ≤ 1048576
  items : r.fItems.length ≤ 1048576

theorem s_in (fu : Nat) (n lo hi : Int) : d_spec_l1In fu n lo hi = some (inb n lo hi) := by
  unfold d_spec_l1In inb
  by_cases h : lo ≤ n
  · simp [h]
  · simp [h]
theorem i_in (fu : Nat) (n lo hi : Int) : d_impl_in fu n lo hi = some (inb n lo hi) := s_in fu n lo hi
theorem s_side (fu : Nat) (n : Int) : d_spec_l2Side fu n = some (inb n 1 2000) := by unfold d_spec_l2Side; rw [s_in]; rfl
theorem s_id (fu : Nat) (n : Int) : d_spec_l2Id fu n = some (inb n 0 999) := by unfold d_spec_l2Id; rw [s_in]; rfl
theorem i_side (fu : Nat) (n : Int) : d_impl_isSide fu n = some (inb n 1 2000) := by unfold d_impl_isSide; rw [i_in]; rfl
theorem s_pal (fu : Nat) (p : Pallet) : d_spec_PalletOk fu p = some (palB p) := by
  unfold d_spec_PalletOk palB
  simp only [s_side, s_in, ob_some]
  cases inb p.fW 1 2000 <;> cases inb p.fD 1 2000 <;> cases inb p.fH 1 2000 <;> rfl
theorem i_pal (fu : Nat) (p : Pallet) : d_impl_PalletOk fu p = some (palB p) := by
  unfold d_impl_PalletOk palB
  simp only [i_side, i_in, ob_some]
  cases inb p.fW 1 2000 <;> cases inb p.fD 1 2000 <;> cases inb p.fH 1 2000 <;> rfl
theorem s_typ (fu : Nat) (t : Typ) : d_spec_TypeOk fu t = some (typB t) := by
  unfold d_spec_TypeOk typB
  simp only [s_side, s_in, s_id, ob_some]
  cases inb t.fId 0 999 <;> cases inb t.fW 1 2000 <;> cases inb t.fH 1 2000 <;> cases inb t.fD 1 2000 <;> cases inb t.fTare 0 100000 <;> cases inb t.fGram 1 100000 <;> rfl
theorem i_typ (fu : Nat) (t : Typ) : d_impl_TypeOk fu t = some (typB t) := by
  unfold d_impl_TypeOk typB
  simp only [i_side, i_in, ob_some]
  cases inb t.fId 0 999 <;> cases inb t.fW 1 2000 <;> cases inb t.fH 1 2000 <;> cases inb t.fD 1 2000 <;> cases inb t.fTare 0 100000 <;> cases inb t.fGram 1 100000 <;> rfl
theorem s_itm (fu : Nat) (t : Item) : d_spec_ItemOk fu t = some (itmB t) := by
  unfold d_spec_ItemOk itmB
  simp only [s_side, s_in, s_id, ob_some]
  cases inb t.fId 0 999 <;> cases inb t.fW 1 2000 <;> cases inb t.fH 1 2000 <;> cases inb t.fD 1 2000 <;> cases inb t.fGram 1 100000 <;> cases inb t.fClass 0 3 <;> rfl
theorem i_itm (fu : Nat) (t : Item) : d_impl_ItemOk fu t = some (itmB t) := by
  unfold d_impl_ItemOk itmB
  simp only [i_side, i_in, ob_some]
  cases inb t.fId 0 999 <;> cases inb t.fW 1 2000 <;> cases inb t.fH 1 2000 <;> cases inb t.fD 1 2000 <;> cases inb t.fGram 1 100000 <;> cases inb t.fClass 0 3 <;> rfl

/-! ### bounds -/
theorem w64_sum {n c : Int} {xs : List Item} (h : n + c + sumI (xs.map (·.fCount)) ≤ 4611686018427387904) (h0 : 0 ≤ n) (hc : 0 ≤ c) (hs : 0 ≤ sumI (xs.map (·.fCount))) : w64 (n + c) = n + c := w64_id (by omega) (by omega)
/-- the sum of counts, told step by step -/
def cntF : List Item → Int → Option Bool
  | [], n => some (decide (n ≤ 12))
  | x :: xs, n => bif !itmB x then some false else cntF xs (w64 (n + x.fCount))
theorem cntF_eq : ∀ (l : List Item) (n : Int), 0 ≤ n → n + 6 * l.length ≤ 4611686018427387904 → cntF l n = some (l.all itmB && decide (n + sumI (l.map (·.fCount)) ≤ 12))
  | [], n, _, _ => by simp [cntF]
  | x :: xs, n, h0, h1 => by
    unfold cntF
    cases hx : itmB x
    · simp [hx]
    · have hc := hx
      simp only [itmB, Bool.and_eq_true, inb_iff] at hc
      have hc := hc.2.2.2.2.2.2
      simp only [List.length_cons] at h1
      rw [w64_id (by omega) (by omega)]
      simp only [Bool.not_true, cond_false]
      rw [cntF_eq xs (n + x.fCount) (by omega) (by omega)]
      simp only [List.all_cons, hx, Bool.true_and, List.map_cons, sumI_cons, Int.add_assoc]
theorem s_bou {fu : Nat} {r : Request} (h : Sm fu r) : d_spec_BoundsOk fu r = some (bouB r) := by
  have hfu := h.fu
  have h7 : r.fItems.length ≤ 8 → d_spec_BoundsOk_L1 fu r fu 0 0 = some (r.fItems.all itmB && decide (sumI (r.fItems.map (·.fCount)) ≤ 12)) := by
    intro h8
    rw [lp r.fItems (fun n s i => d_spec_BoundsOk_L1 fu r n s i) cntF (by have := h.items; omega) ?_ ?_ fu 0 (by have := h.items; omega), cntF_eq _ _ (by omega) (by have := h.items; omega)]
    · simp
    · intro n s i x xs hx hd ih
      simp only [d_spec_BoundsOk_L1_s]
      unfold d_spec_BoundsOk_L1_B
      simp only [hd, cond_true, hx, ob_some, s_itm, ih]
      rfl
    · intro n s i hd
      simp only [d_spec_BoundsOk_L1_s]
      unfold d_spec_BoundsOk_L1_B
      simp only [hd, cond_false]
      rfl
  have h6 : ∀ b : Bool, (d_spec_BoundsOk_L1 fu r fu 0 0 = some b) → d_spec_BoundsOk_L2 fu r fu 0 = some (r.fTypes.all typB && b) := by
    intro b hb
    refine lp r.fTypes (fun n (_ : Unit) i => d_spec_BoundsOk_L2 fu r n i) (fun l _ => some (l.all typB && b)) (by have := h.types; omega) ?_ ?_ fu () (by have := h.types; omega)
    · intro n s i x xs hx hd ih
      simp only [d_spec_BoundsOk_L2_s]
      unfold d_spec_BoundsOk_L2_B
      simp only [hd, cond_true, hx, ob_some, s_typ, ih (), List.all_cons]
      cases typB x <;> rfl
    · intro n s i hd
      simp only [d_spec_BoundsOk_L2_s]
      unfold d_spec_BoundsOk_L2_B
      simp only [hd, cond_false, hb]
      rfl
  have h4 : ∀ b : Bool, (d_spec_BoundsOk_L2 fu r fu 0 = some b) → d_spec_BoundsOk_L3 fu r fu 0 = some (r.fPairs.all prB && b) := by
    intro b hb
    refine lp r.fPairs (fun n (_ : Unit) i => d_spec_BoundsOk_L3 fu r n i) (fun l _ => some (l.all prB && b)) (by have := h.pairs; omega) ?_ ?_ fu () (by have := h.pairs; omega)
    · intro n s i x xs hx hd ih
      simp only [d_spec_BoundsOk_L3_s]
      unfold d_spec_BoundsOk_L3_B d_spec_BoundsOk_J1
      simp only [hd, cond_true, hx, ob_some, s_in, ih ()]
      simp only [List.all_cons, prB]
      cases inb x.fA 0 3 <;> cases inb x.fB 0 3 <;> rfl
    · intro n s i hd
      simp only [d_spec_BoundsOk_L3_s]
      unfold d_spec_BoundsOk_L3_B
      simp only [hd, cond_false, hb]
      rfl
  unfold d_spec_BoundsOk d_spec_BoundsOk_J2 bouB
  simp only [s_in, s_id, s_pal, ob_some]
  by_cases h8 : r.fItems.length ≤ 8
  · rw [h4 _ (h6 _ (h7 h8))]
    have e8 : decide ((r.fItems.length : Int) > 8) = false := by simp; omega
    rw [e8]
    by_cases hp : r.fPairs.length ≤ 16
    · have e16 : decide ((r.fPairs.length : Int) > 16) = false := by simp; omega
      rw [e16]
      simp only [hp, h8, decide_true, cond_false, Bool.and_true]
      cases inb r.fWay 0 1 <;> cases palB r.fPallet <;> cases inb r.fClasses 1 4 <;> cases inb (r.fTypes.length : Int) 1 5 <;> cases inb r.fMaster 0 999 <;> simp <;> cases r.fPairs.all prB <;> cases r.fTypes.all typB <;> rfl
    · have e16 : decide ((r.fPairs.length : Int) > 16) = true := by simp; omega
      rw [e16]
      simp only [hp, decide_false, cond_true]
      cases inb r.fWay 0 1 <;> cases palB r.fPallet <;> cases inb r.fClasses 1 4 <;> simp
  · have e8 : decide ((r.fItems.length : Int) > 8) = true := by simp; omega
    rw [e8]
    simp only [h8, decide_false, cond_true, Bool.and_false, Bool.false_and]
    cases inb r.fWay 0 1 <;> cases palB r.fPallet <;> cases inb r.fClasses 1 4 <;> simp

/-! ### slices.IndexFunc and its kin -/
def fndI {α : Type} (g : α → Bool) : List α → Int → Int
  | [], _ => -1
  | x :: xs, i => bif g x then i else fndI g xs (i + 1)
theorem fndI_any {α : Type} (g : α → Bool) : ∀ (l : List α) (i : Int), 0 ≤ i → decide (fndI g l i ≥ 0) = l.any g
  | [], i, _ => rfl
  | x :: xs, i, h => by
    simp only [fndI, List.any_cons]
    by_cases hx : g x = true
    · simpa [hx] using h
    · simpa [hx] using fndI_any g xs (i + 1) (by omega)
theorem fndI_find {α : Type} (g : α → Bool) : ∀ (l pre : List α) , (fndI g l pre.length < 0 ∧ l.find? g = none) ∨ (0 ≤ fndI g l pre.length ∧ ∃ x, l.find? g = some x ∧ ix (pre ++ l) (fndI g l pre.length) = some x)
  | [], pre => .inl ⟨by simp [fndI], rfl⟩
  | x :: xs, pre => by
    simp only [fndI]
    cases hx : g x
    · have := fndI_find g xs (pre ++ [x])
      simp only [List.length_append, List.length_singleton, List.append_assoc, List.singleton_append] at this
      simpa [List.find?_cons, hx] using this
    · refine .inr ⟨by simp, x, by simp [hx], ?_⟩
      rw [cond_true, ix_nat]
      simp
/-- the loop of IndexFunc, from a place on -/
theorem idx_loop {α : Type} (l : List α) (L : Nat → Int → Option Int) (g : α → Bool) (hl : l.length ≤ 1099511627776)
    (hs : ∀ n (i : Int) x, ix l i = some x → decide (i < (l.length : Int)) = true → L (n + 1) i = bif g x then some i else L n (w64 (i + 1)))
    (he : ∀ n (i : Int), decide (i < (l.length : Int)) = false → L (n + 1) i = some (-1)) (n : Nat) (hn : l.length < n) : L n 0 = some (fndI g l 0) := by
  have key : ∀ (m i n : Nat), l.length - i = m → i ≤ l.length → m < n → L n (i : Int) = some (fndI g (l.drop i) i) := by
    intro m
    induction m with
    | zero =>
      intro i n hm hi hn
      obtain ⟨n, rfl⟩ : ∃ k, n = k + 1 := ⟨n - 1, by omega⟩
      rw [List.drop_of_length_le (by omega), he n i (by simp; omega)]
      rfl
    | succ m ih =>
      intro i n hm hi hn
      obtain ⟨n, rfl⟩ : ∃ k, n = k + 1 := ⟨n - 1, by omega⟩
      have hlt : i < l.length := by omega
      rw [hs n i _ (ix_i hlt) (by simpa using hlt), List.drop_eq_getElem_cons hlt]
      simp only [fndI]
      cases g l[i]
      · rw [cond_false, cond_false, w64_s i (by omega)]
        have := ih (i + 1) n (by omega) (by omega) (by omega)
        simpa using this
      · rfl
  simpa using key l.length 0 n (by omega) (by omega) hn
theorem i_idxTyp {fu : Nat} {l : List Typ} (f : Typ → Option Bool) (g : Typ → Bool) (hg : ∀ x ∈ l, f x = some (g x)) (hl : l.length ≤ 1048576) (hf : l.length < fu) : d_slices_IndexFunc_impl_Type_impl_Type fu l f = some (fndI g l 0) := by
  unfold d_slices_IndexFunc_impl_Type_impl_Type
  refine idx_loop l (fun n i => d_slices_IndexFunc_impl_Type_impl_Type_L1 fu l f n i) g (by omega) ?_ ?_ fu hf
  · intro n i x hx hd
    simp only [d_slices_IndexFunc_impl_Type_impl_Type_L1_s]
    unfold d_slices_IndexFunc_impl_Type_impl_Type_L1_B
    simp only [hd, cond_true, hx, ob_some, hg x (ix_mem hx)]
  · intro n i hd
    simp only [d_slices_IndexFunc_impl_Type_impl_Type_L1_s]
    unfold d_slices_IndexFunc_impl_Type_impl_Type_L1_B
    simp only [hd, cond_false]
theorem i_anyTyp {fu : Nat} {l : List Typ} (f : Typ → Option Bool) (g : Typ → Bool) (hg : ∀ x ∈ l, f x = some (g x)) (hl : l.length ≤ 1048576) (hf : l.length < fu) : d_slices_ContainsFunc_impl_Type_impl_Type fu l f = some (l.any g) := by
  unfold d_slices_ContainsFunc_impl_Type_impl_Type
  rw [i_idxTyp f g hg hl hf, ob_some, fndI_any g l 0 (by omega)]
theorem i_idxPair {fu : Nat} {l : List Pair} (f : Pair → Option Bool) (g : Pair → Bool) (hg : ∀ x ∈ l, f x = some (g x)) (hl : l.length ≤ 1048576) (hf : l.length < fu) : d_slices_IndexFunc_impl_Pair_impl_Pair fu l f = some (fndI g l 0) := by
  unfold d_slices_IndexFunc_impl_Pair_impl_Pair
  refine idx_loop l (fun n i => d_slices_IndexFunc_impl_Pair_impl_Pair_L1 fu l f n i) g (by omega) ?_ ?_ fu hf
  · intro n i x hx hd
    simp only [d_slices_IndexFunc_impl_Pair_impl_Pair_L1_s]
    unfold d_slices_IndexFunc_impl_Pair_impl_Pair_L1_B
    simp only [hd, cond_true, hx, ob_some, hg x (ix_mem hx)]
  · intro n i hd
    simp only [d_slices_IndexFunc_impl_Pair_impl_Pair_L1_s]
    unfold d_slices_IndexFunc_impl_Pair_impl_Pair_L1_B
    simp only [hd, cond_false]
theorem i_anyPair {fu : Nat} {l : List Pair} (f : Pair → Option Bool) (g : Pair → Bool) (hg : ∀ x ∈ l, f x = some (g x)) (hl : l.length ≤ 1048576) (hf : l.length < fu) : d_slices_ContainsFunc_impl_Pair_impl_Pair fu l f = some (l.any g) := by
  unfold d_slices_ContainsFunc_impl_Pair_impl_Pair
  rw [i_idxPair f g hg hl hf, ob_some, fndI_any g l 0 (by omega)]
theorem i_idxItem {fu : Nat} {l : List Item} (f : Item → Option Bool) (g : Item → Bool) (hg : ∀ x ∈ l, f x = some (g x)) (hl : l.length ≤ 1048576) (hf : l.length < fu) : d_slices_IndexFunc_impl_Item_impl_Item fu l f = some (fndI g l 0) := by
  unfold d_slices_IndexFunc_impl_Item_impl_Item
  refine idx_loop l (fun n i => d_slices_IndexFunc_impl_Item_impl_Item_L1 fu l f n i) g (by omega) ?_ ?_ fu hf
  · intro n i x hx hd
    simp only [d_slices_IndexFunc_impl_Item_impl_Item_L1_s]
    unfold d_slices_IndexFunc_impl_Item_impl_Item_L1_B
    simp only [hd, cond_true, hx, ob_some, hg x (ix_mem hx)]
  · intro n i hd
    simp only [d_slices_IndexFunc_impl_Item_impl_Item_L1_s]
    unfold d_slices_IndexFunc_impl_Item_impl_Item_L1_B
    simp only [hd, cond_false]
theorem i_anyItem {fu : Nat} {l : List Item} (f : Item → Option Bool) (g : Item → Bool) (hg : ∀ x ∈ l, f x = some (g x)) (hl : l.length ≤ 1048576) (hf : l.length < fu) : d_slices_ContainsFunc_impl_Item_impl_Item fu l f = some (l.any g) := by
  unfold d_slices_ContainsFunc_impl_Item_impl_Item
  rw [i_idxItem f g hg hl hf, ob_some, fndI_any g l 0 (by omega)]

theorem i_bou {fu : Nat} {r : Request} (h : Sm fu r) : d_impl_BoundsOk fu r = some (bouB r) := by
  have hfu := h.fu
  have h1 := h.items
  have h2 := h.types
  have h3 := h.pairs
  have e3 : d_impl_BoundsOk_L1 fu r fu 0 0 = some (r.fItems.all itmB && decide (sumI (r.fItems.map (·.fCount)) ≤ 12)) := by
    rw [lp r.fItems (fun n s i => d_impl_BoundsOk_L1 fu r n s i) cntF (by omega) ?_ ?_ fu 0 (by omega), cntF_eq _ _ (by omega) (by omega)]
    · simp
    · intro n s i x xs hx hd ih
      simp only [d_impl_BoundsOk_L1_s]
      unfold d_impl_BoundsOk_L1_B
      simp only [hd, cond_true, hx, ob_some, i_itm, ih]
      rfl
    · intro n s i hd
      simp only [d_impl_BoundsOk_L1_s]
      unfold d_impl_BoundsOk_L1_B
      simp only [hd, cond_false]
      rfl
  have ep : d_slices_ContainsFunc_impl_Pair_impl_Pair fu r.fPairs (fun y34 => d_impl_BoundsOk_1 fu y34) = some (!(r.fPairs.all prB)) := by
    rw [i_anyPair _ (fun p => !prB p) (fun p _ => by
      unfold d_impl_BoundsOk_1 prB
      simp only [i_in, ob_some]
      cases inb p.fA 0 3 <;> rfl) h3 (by omega)]
    simp [List.not_all_eq_any_not]
  have et : d_slices_ContainsFunc_impl_Type_impl_Type fu r.fTypes (fun y34 => d_impl_BoundsOk_2 fu y34) = some (!(r.fTypes.all typB)) := by
    rw [i_anyTyp _ (fun p => !typB p) (fun p _ => by
      unfold d_impl_BoundsOk_2
      rw [i_typ]; rfl) h2 (by omega)]
    simp [List.not_all_eq_any_not]
  unfold d_impl_BoundsOk d_impl_BoundsOk_J2 d_impl_BoundsOk_J1 bouB
  rw [e3, ep, et]
  simp only [i_in, i_pal, ob_some]
  have e8 : decide ((r.fItems.length : Int) > 8) = !decide (r.fItems.length ≤ 8) := by
    by_cases hh : r.fItems.length ≤ 8
    · have : ¬ ((r.fItems.length : Int) > 8) := by omega
      simp [hh, this]
    · have : (r.fItems.length : Int) > 8 := by omega
      simp [hh, this]
  have e16 : decide ((r.fPairs.length : Int) > 16) = !decide (r.fPairs.length ≤ 16) := by
    by_cases hh : r.fPairs.length ≤ 16
    · have : ¬ ((r.fPairs.length : Int) > 16) := by omega
      simp [hh, this]
    · have : (r.fPairs.length : Int) > 16 := by omega
      simp [hh, this]
  rw [e8, e16]
  cases inb r.fWay 0 1 <;> cases palB r.fPallet <;> cases inb r.fClasses 1 4 <;> cases decide (r.fPairs.length ≤ 16) <;> cases r.fPairs.all prB <;> cases inb (r.fTypes.length : Int) 1 5 <;> cases r.fTypes.all typB <;> cases inb r.fMaster 0 999 <;> cases decide (r.fItems.length ≤ 8) <;> rfl
end Go.Proofs.YthjbcfefkdbgoaaGreat
