/- Names, table, fitting, the reason of spec and of impl. Each is the plain function of M0. -/
import Derived.Test.YthjbcfefkdbgoaaGreatExactOneEachW6
import Derived.Test.YthjbcfefkdbgoaaGreatM2
import Derived.Test.YthjbcfefkdbgoaaGreatExactOneEachPCls
import Derived.Test.YthjbcfefkdbgoaaGreatExactOneEachPSort
namespace Go.Proofs.YthjbcfefkdbgoaaGreat
open Go

/-- a loop over a list, what lies ahead and what lies behind -/
theorem lpP {σ α β : Type} (l : List α) (L : Nat → σ → Int → Option β) (F : List α → List α → σ → Option β) (hl : l.length ≤ 1099511627776)
    (hs : ∀ n s pre x xs, l = pre ++ x :: xs → ix l (pre.length : Int) = some x → decide ((pre.length : Int) < (l.length : Int)) = true → (∀ s', L n s' (w64 ((pre.length : Int) + 1)) = F (pre ++ [x]) xs s') → L (n + 1) s (pre.length : Int) = F pre (x :: xs) s)
    (he : ∀ n s, decide ((l.length : Int) < (l.length : Int)) = false → L (n + 1) s (l.length : Int) = F l [] s) : ∀ n s, l.length < n → L n s 0 = F [] l s := by
  have key : ∀ (xs pre : List α) (n : Nat) (s : σ), l = pre ++ xs → xs.length < n → L n s (pre.length : Int) = F pre xs s := by
    intro xs
    induction xs with
    | nil =>
      intro pre n s he' hn
      obtain ⟨n, rfl⟩ : ∃ k, n = k + 1 := ⟨n - 1, by omega⟩
      simp only [List.append_nil] at he'
      subst he'
      exact he n s (by simp)
    | cons x xs ih =>
      intro pre n s he' hn
      obtain ⟨n, rfl⟩ : ∃ k, n = k + 1 := ⟨n - 1, by simp at hn; omega⟩
      have hlen : l.length = pre.length + (xs.length + 1) := by rw [he']; simp
      refine hs n s pre x xs he' ?_ (by simp; omega) fun s' => ?_
      · rw [ix_nat, he']; simp
      · rw [w64_s _ (by omega)]
        have := ih (pre ++ [x]) n s' (by simp [he']) (by simp at hn; omega)
        simpa using this
  intro n s hn
  simpa using key l [] n s rfl hn
theorem ix_app {α : Type} {pre rest : List α} {i : Int} {y : α} (h : ix pre i = some y) : ix (pre ++ rest) i = some y := by
  obtain ⟨h0, h1, h2⟩ := ix_some h
  unfold ix
  rw [if_pos h0, List.getElem?_append_left (by omega), h2]
theorem ibeq (a b : Int) : (a == b) = (b == a) := Bool.eq_iff_iff.2 (by simp only [beq_iff_eq]; exact ⟨Eq.symm, Eq.symm⟩)
theorem any_comm {α : Type} (f : α → Int) (c : Int) (l : List α) : (l.any fun y => c == f y) = l.any fun y => f y == c := by
  congr 1
  funext y
  exact ibeq _ _

theorem i_typById {fu : Nat} {r : Request} (h : Sm fu r) (id : Int) : d_impl_TypeById fu r id = some (othM (typM r id)) := by
  have hfu := h.fu
  have ht := h.types
  unfold d_impl_TypeById typM
  rw [i_idxTyp (fun y24 => d_impl_TypeById_1 fu y24 id) (fun t => t.fId == id) (fun t _ => rfl) ht (by omega), ob_some]
  rcases fndI_find (fun t : Typ => t.fId == id) r.fTypes [] with ⟨h1, h2⟩ | ⟨h1, x, h2, h3⟩
  · simp only [List.length_nil] at h1
    rw [bif_true (by simpa using h1), h2]; rfl
  · simp only [List.length_nil, List.nil_append] at h1 h3
    rw [bif_false (by simpa using h1), h2]
    have h3' : ix r.fTypes (fndI (fun t => t.fId == id) r.fTypes 0) = some x := h3
    rw [h3']; rfl
theorem s_mas {fu : Nat} {r : Request} (h : Sm fu r) : d_spec_MasterOf fu r = some (othM (typM r r.fMaster)) := by
  have hfu := h.fu
  have ht := h.types
  unfold d_spec_MasterOf typM
  refine lp r.fTypes (fun n (_ : Unit) i => d_spec_MasterOf_L1 fu r n i) (fun l _ => some (othM (l.find? fun t => t.fId == r.fMaster))) (by omega) ?_ ?_ fu () (by omega)
  · intro n s i x xs hx hd ih
    simp only [d_spec_MasterOf_L1_s]
    unfold d_spec_MasterOf_L1_B
    simp only [hd, cond_true, hx, ob_some, ih (), List.find?_cons]
    cases x.fId == r.fMaster <;> rfl
  · intro n s i hd
    simp only [d_spec_MasterOf_L1_s]
    unfold d_spec_MasterOf_L1_B
    simp only [hd, cond_false]
    rfl
theorem i_mas {fu : Nat} {r : Request} (h : Sm fu r) : d_impl_MasterOf fu r = some (othM (typM r r.fMaster)) := by
  unfold d_impl_MasterOf
  rw [i_typById h]; rfl
theorem othM_2 (o : Option Typ) : (othM o).2 = o.isSome := by cases o <;> rfl

/-! ### names -/
theorem s_nam {fu : Nat} {r : Request} (h : Sm fu r) : d_spec_l5Names fu r = some (namB r) := by
  have hfu := h.fu
  have h1 := h.items
  have h2 := h.types
  have h3 := h.pairs
  have e11 : d_spec_l5Names_L3 fu r fu 0 = some (!(r.fPairs.any fun p => decide (p.fA ≥ r.fClasses) || decide (p.fB ≥ r.fClasses)) && (typM r r.fMaster).isSome) := by
    refine lp r.fPairs (fun n (_ : Unit) i => d_spec_l5Names_L3 fu r n i) (fun l _ => some (!(l.any fun p => decide (p.fA ≥ r.fClasses) || decide (p.fB ≥ r.fClasses)) && (typM r r.fMaster).isSome)) (by omega) ?_ ?_ fu () (by omega)
    · intro n s i x xs hx hd ih
      simp only [d_spec_l5Names_L3_s]
      unfold d_spec_l5Names_L3_B d_spec_l5Names_J1
      simp only [hd, cond_true, hx, ob_some, ih (), List.any_cons]
      cases decide (x.fA ≥ r.fClasses) <;> cases decide (x.fB ≥ r.fClasses) <;> rfl
    · intro n s i hd
      simp only [d_spec_l5Names_L3_s]
      unfold d_spec_l5Names_L3_B
      simp only [hd, cond_false, s_mas h, ob_some, othM_2]
      rfl
  have e7 : ∀ b, d_spec_l5Names_L3 fu r fu 0 = some b → d_spec_l5Names_L4 fu r fu 0 = some (nodC r.fClasses [] r.fItems && b) := by
    intro b hb
    refine lpP r.fItems (fun n (_ : Unit) i => d_spec_l5Names_L4 fu r n i) (fun pre l _ => some (nodC r.fClasses pre l && b)) (by omega) ?_ ?_ fu () (by omega)
    · intro n s pre x xs hl hx hd ih
      simp only [d_spec_l5Names_L4_s]
      unfold d_spec_l5Names_L4_B
      simp only [hd, cond_true, hx, ob_some, nodC]
      cases hc : decide (x.fClass ≥ r.fClasses)
      · have hpl : pre.length ≤ r.fItems.length := by rw [hl]; simp
        have e8 : d_spec_l5Names_L2 fu (fun i => d_spec_l5Names_L4 fu r n i) r (pre.length : Int) fu 0 = bif pre.any (fun y => y.fId == x.fId) then some false else d_spec_l5Names_L4 fu r n (w64 ((pre.length : Int) + 1)) := by
          refine lp pre (fun m (_ : Unit) i => d_spec_l5Names_L2 fu (fun i => d_spec_l5Names_L4 fu r n i) r (pre.length : Int) m i) (fun l _ => bif l.any (fun y => y.fId == x.fId) then some false else d_spec_l5Names_L4 fu r n (w64 ((pre.length : Int) + 1))) (by omega) ?_ ?_ fu () (by omega)
          · intro m s i y ys hy hd ih
            simp only [d_spec_l5Names_L2_s]
            unfold d_spec_l5Names_L2_B
            have hy' : ix r.fItems i = some y := by rw [hl]; exact ix_app hy
            simp only [hd, cond_true, hx, hy', ob_some, ih (), List.any_cons]
            rw [ibeq x.fId y.fId]
            cases y.fId == x.fId <;> rfl
          · intro m s i hd
            simp only [d_spec_l5Names_L2_s]
            unfold d_spec_l5Names_L2_B
            simp only [hd, cond_false]
            rfl
        have e8' : d_spec_l5Names_L2 fu (d_spec_l5Names_L4 fu r n) r (pre.length : Int) fu 0 = bif pre.any (fun y => y.fId == x.fId) then some false else d_spec_l5Names_L4 fu r n (w64 ((pre.length : Int) + 1)) := e8
        rw [cond_false, e8', ih ()]
        cases pre.any (fun y => y.fId == x.fId) <;> rfl
      · rfl
    · intro n s hd
      simp only [d_spec_l5Names_L4_s]
      unfold d_spec_l5Names_L4_B
      simp only [hd, cond_false, hb]
      rfl
  have e3 : ∀ b, d_spec_l5Names_L4 fu r fu 0 = some b → d_spec_l5Names_L5 fu r fu 0 = some (nodB Typ.fId [] r.fTypes && b) := by
    intro b hb
    refine lpP r.fTypes (fun n (_ : Unit) i => d_spec_l5Names_L5 fu r n i) (fun pre l _ => some (nodB Typ.fId pre l && b)) (by omega) ?_ ?_ fu () (by omega)
    · intro n s pre x xs hl hx hd ih
      simp only [d_spec_l5Names_L5_s]
      unfold d_spec_l5Names_L5_B
      simp only [hd, cond_true, nodB]
      have hpl : pre.length ≤ r.fTypes.length := by rw [hl]; simp
      have e8 : d_spec_l5Names_L1 fu (fun i => d_spec_l5Names_L5 fu r n i) r (pre.length : Int) fu 0 = bif pre.any (fun y => y.fId == x.fId) then some false else d_spec_l5Names_L5 fu r n (w64 ((pre.length : Int) + 1)) := by
        refine lp pre (fun m (_ : Unit) i => d_spec_l5Names_L1 fu (fun i => d_spec_l5Names_L5 fu r n i) r (pre.length : Int) m i) (fun l _ => bif l.any (fun y => y.fId == x.fId) then some false else d_spec_l5Names_L5 fu r n (w64 ((pre.length : Int) + 1))) (by omega) ?_ ?_ fu () (by omega)
        · intro m s i y ys hy hd ih
          simp only [d_spec_l5Names_L1_s]
          unfold d_spec_l5Names_L1_B
          have hy' : ix r.fTypes i = some y := by rw [hl]; exact ix_app hy
          simp only [hd, cond_true, hx, hy', ob_some, ih (), List.any_cons]
          rw [ibeq x.fId y.fId]
          cases y.fId == x.fId <;> rfl
        · intro m s i hd
          simp only [d_spec_l5Names_L1_s]
          unfold d_spec_l5Names_L1_B
          simp only [hd, cond_false]
          rfl
      have e8' : d_spec_l5Names_L1 fu (d_spec_l5Names_L5 fu r n) r (pre.length : Int) fu 0 = bif pre.any (fun y => y.fId == x.fId) then some false else d_spec_l5Names_L5 fu r n (w64 ((pre.length : Int) + 1)) := e8
      rw [e8', ih ()]
      cases pre.any (fun y => y.fId == x.fId) <;> rfl
    · intro n s hd
      simp only [d_spec_l5Names_L5_s]
      unfold d_spec_l5Names_L5_B
      simp only [hd, cond_false, hb]
      rfl
  unfold d_spec_l5Names namB
  rw [e3 _ (e7 _ e11)]
  congr 1
  cases nodB Typ.fId [] r.fTypes <;> cases nodC r.fClasses [] r.fItems <;> cases (typM r r.fMaster).isSome <;> cases r.fPairs.any fun p => decide (p.fA ≥ r.fClasses) || decide (p.fB ≥ r.fClasses) <;> rfl
theorem sls_pre {α : Type} {l pre xs : List α} {x : α} (h : l = pre ++ x :: xs) : sls l 0 (pre.length : Int) = some pre := by
  rw [sls_some ⟨by omega, by omega, by rw [h]; simp; omega⟩]
  simp [h]
theorem i_nam {fu : Nat} {r : Request} (h : Sm fu r) : d_impl_namesOk fu r = some (namB r) := by
  have hfu := h.fu
  have h1 := h.items
  have h2 := h.types
  have h3 := h.pairs
  have e4 : d_impl_namesOk_L1 fu r fu 0 = some (nodC r.fClasses [] r.fItems && ((typM r r.fMaster).isSome && !(r.fPairs.any fun p => decide (p.fA ≥ r.fClasses) || decide (p.fB ≥ r.fClasses)))) := by
    refine lpP r.fItems (fun n (_ : Unit) i => d_impl_namesOk_L1 fu r n i) (fun pre l _ => some (nodC r.fClasses pre l && ((typM r r.fMaster).isSome && !(r.fPairs.any fun p => decide (p.fA ≥ r.fClasses) || decide (p.fB ≥ r.fClasses))))) (by omega) ?_ ?_ fu () (by omega)
    · intro n s pre x xs hl hx hd ih
      simp only [d_impl_namesOk_L1_s]
      unfold d_impl_namesOk_L1_B d_impl_namesOk_J1
      have hpl : pre.length ≤ r.fItems.length := by rw [hl]; simp
      simp only [hd, cond_true, hx, ob_some, sls_pre hl, i_anyItem (fun y => d_impl_namesOk_2 fu y x) (fun y => y.fId == x.fId) (fun y _ => rfl) (show pre.length ≤ 1048576 by omega) (show pre.length < fu by omega), nodC, ih ()]
      cases decide (x.fClass ≥ r.fClasses) <;> cases pre.any (fun y => y.fId == x.fId) <;> rfl
    · intro n s hd
      simp only [d_impl_namesOk_L1_s]
      unfold d_impl_namesOk_L1_B
      simp only [hd, cond_false, i_mas h, ob_some, othM_2]
      rw [i_anyPair (fun y => d_impl_namesOk_3 fu y r) (fun p => decide (p.fA ≥ r.fClasses) || decide (p.fB ≥ r.fClasses)) (fun p _ => by
        unfold d_impl_namesOk_3
        cases decide (p.fA ≥ r.fClasses) <;> rfl) h3 (by omega), ob_some]
      cases (typM r r.fMaster).isSome <;> rfl
  have e3 : ∀ b, d_impl_namesOk_L1 fu r fu 0 = some b → d_impl_namesOk_L2 fu r fu 0 = some (nodB Typ.fId [] r.fTypes && b) := by
    intro b hb
    refine lpP r.fTypes (fun n (_ : Unit) i => d_impl_namesOk_L2 fu r n i) (fun pre l _ => some (nodB Typ.fId pre l && b)) (by omega) ?_ ?_ fu () (by omega)
    · intro n s pre x xs hl hx hd ih
      simp only [d_impl_namesOk_L2_s]
      unfold d_impl_namesOk_L2_B
      have hpl : pre.length ≤ r.fTypes.length := by rw [hl]; simp
      simp only [hd, cond_true, hx, ob_some, sls_pre hl, i_anyTyp (fun y => d_impl_namesOk_1 fu y x) (fun y => y.fId == x.fId) (fun y _ => rfl) (show pre.length ≤ 1048576 by omega) (show pre.length < fu by omega), nodB, ih ()]
      cases pre.any (fun y => y.fId == x.fId) <;> rfl
    · intro n s hd
      simp only [d_impl_namesOk_L2_s]
      unfold d_impl_namesOk_L2_B
      simp only [hd, cond_false, hb]
      rfl
  unfold d_impl_namesOk namB
  rw [e3 _ e4]
  congr 1
  cases nodB Typ.fId [] r.fTypes <;> cases nodC r.fClasses [] r.fItems <;> cases (typM r r.fMaster).isSome <;> cases r.fPairs.any fun p => decide (p.fA ≥ r.fClasses) || decide (p.fB ≥ r.fClasses) <;> rfl

/-! ### the table -/
theorem s_bes {fu : Nat} {l : List Pair} (hl : l.length ≤ 1048576) (hf : l.length < fu) (a b : Int) : d_spec_Beside fu l a b = some (besB l a b) := by
  unfold d_spec_Beside besB
  refine lp l (fun n (_ : Unit) i => d_spec_Beside_L1 fu l a b n i) (fun l _ => some (l.any fun p => p.fA == a && p.fB == b)) (by omega) ?_ ?_ fu () hf
  · intro n s i x xs hx hd ih
    simp only [d_spec_Beside_L1_s]
    unfold d_spec_Beside_L1_B d_spec_Beside_J1
    simp only [hd, cond_true, hx, ob_some, ih (), List.any_cons]
    cases x.fA == a <;> cases x.fB == b <;> rfl
  · intro n s i hd
    simp only [d_spec_Beside_L1_s]
    unfold d_spec_Beside_L1_B
    simp only [hd, cond_false]
    rfl
theorem i_bes {fu : Nat} {l : List Pair} (hl : l.length ≤ 1048576) (hf : l.length < fu) (a b : Int) : d_impl_Beside fu l a b = some (besB l a b) := by
  unfold d_impl_Beside d_slices_Contains_impl_Pair_impl_Pair d_slices_Index_impl_Pair_impl_Pair besB
  have := idx_loop l (fun n i => d_slices_Index_impl_Pair_impl_Pair_L1 fu l (⟨a, b⟩ : Pair) n i) (fun p => p.fA == a && p.fB == b) (by omega) (by
    intro n i x hx hd
    simp only [d_slices_Index_impl_Pair_impl_Pair_L1_s]
    unfold d_slices_Index_impl_Pair_impl_Pair_L1_B
    simp only [hd, cond_true, hx, ob_some]
    have : decide ((⟨a, b⟩ : Pair) = x) = (x.fA == a && x.fB == b) := by
      rcases x with ⟨c, d⟩
      apply Bool.eq_iff_iff.2
      simp only [decide_eq_true_eq, Pair.mk.injEq, Bool.and_eq_true, beq_iff_eq]
      exact ⟨fun ⟨h1, h2⟩ => ⟨h1.symm, h2.symm⟩, fun ⟨h1, h2⟩ => ⟨h1.symm, h2.symm⟩⟩
    rw [this]) (by
    intro n i hd
    simp only [d_slices_Index_impl_Pair_impl_Pair_L1_s]
    unfold d_slices_Index_impl_Pair_impl_Pair_L1_B
    simp only [hd, cond_false]) fu hf
  rw [this, ob_some, fndI_any _ l 0 (by omega), ob_some]
theorem i_tab {fu : Nat} {l : List Pair} (hl : l.length ≤ 1048576) (hf : l.length < fu) (h64 : 64 < fu) (c : Int) : d_impl_TableOk fu l c = some (tabB l c) := by
  unfold d_impl_TableOk tabB
  rw [i_in, ob_some]
  cases hc : inb c 1 4
  · rfl
  rw [inb_iff] at hc
  simp only [Bool.not_true, cond_false, Bool.true_and]
  have e4 : ∀ (k : Int → Option Bool) (a : Int), d_impl_TableOk_L1 fu k l c a fu 0 = bif (ints 0 c.toNat).all fun b => besB l a b == besB l b a then k (w64 (a + 1)) else some false := by
    intro k a
    refine lpN c (fun n (_ : Unit) i => d_impl_TableOk_L1 fu k l c a n i) (fun xs _ => bif xs.all fun b => besB l a b == besB l b a then k (w64 (a + 1)) else some false) (by omega) ?_ ?_ c.toNat fu () 0 (by omega) (by omega) (by omega)
    · intro n s i xs h0 h1 hd ih
      simp only [d_impl_TableOk_L1_s]
      unfold d_impl_TableOk_L1_B
      simp only [hd, cond_true, i_bes hl hf, ob_some, ih (), List.all_cons]
      cases besB l a i == besB l i a <;> rfl
    · intro n s i hd
      simp only [d_impl_TableOk_L1_s]
      unfold d_impl_TableOk_L1_B
      simp only [hd, cond_false]
      rfl
  refine lpN c (fun n (_ : Unit) i => d_impl_TableOk_L2 fu l c n i) (fun xs _ => some (xs.all fun a => besB l a a && (ints 0 c.toNat).all fun b => besB l a b == besB l b a)) (by omega) ?_ ?_ c.toNat fu () 0 (by omega) (by omega) (by omega)
  · intro n s i xs h0 h1 hd ih
    simp only [d_impl_TableOk_L2_s]
    unfold d_impl_TableOk_L2_B
    simp only [hd, cond_true, i_bes hl hf, ob_some, e4, ih (), List.all_cons]
    cases besB l i i <;> cases (ints 0 c.toNat).all fun b => besB l i b == besB l b i <;> rfl
  · intro n s i hd
    simp only [d_impl_TableOk_L2_s]
    unfold d_impl_TableOk_L2_B
    simp only [hd, cond_false]
    rfl
theorem s_tab {fu : Nat} {l : List Pair} (hl : l.length ≤ 1048576) (hf : l.length < fu) (h64 : 64 < fu) (c : Int) : d_spec_TableOk fu l c = some (tabB l c) := by
  unfold d_spec_TableOk tabB
  rw [s_in, ob_some]
  cases hc : inb c 1 4
  · rfl
  rw [inb_iff] at hc
  simp only [Bool.not_true, cond_false, Bool.true_and]
  have e4 : ∀ (k : Int → Option Bool) (a : Int), d_spec_TableOk_L1 fu k l c a fu 0 = bif (ints 0 c.toNat).all fun b => (!(a == b) || besB l a a) && (besB l a b == besB l b a) then k (w64 (a + 1)) else some false := by
    intro k a
    refine lpN c (fun n (_ : Unit) i => d_spec_TableOk_L1 fu k l c a n i) (fun xs _ => bif xs.all fun b => (!(a == b) || besB l a a) && (besB l a b == besB l b a) then k (w64 (a + 1)) else some false) (by omega) ?_ ?_ c.toNat fu () 0 (by omega) (by omega) (by omega)
    · intro n s i xs h0 h1 hd ih
      simp only [d_spec_TableOk_L1_s]
      unfold d_spec_TableOk_L1_B d_spec_TableOk_J1
      simp only [hd, cond_true, s_bes hl hf, ob_some, ih (), List.all_cons]
      cases a == i <;> cases besB l a a <;> cases besB l a i == besB l i a <;> rfl
    · intro n s i hd
      simp only [d_spec_TableOk_L1_s]
      unfold d_spec_TableOk_L1_B
      simp only [hd, cond_false]
      rfl
  have e9 : d_spec_TableOk_L2 fu l c fu 0 = some ((ints 0 c.toNat).all fun a => (ints 0 c.toNat).all fun b => (!(a == b) || besB l a a) && (besB l a b == besB l b a)) := by
    refine lpN c (fun n (_ : Unit) i => d_spec_TableOk_L2 fu l c n i) (fun xs _ => some (xs.all fun a => (ints 0 c.toNat).all fun b => (!(a == b) || besB l a a) && (besB l a b == besB l b a))) (by omega) ?_ ?_ c.toNat fu () 0 (by omega) (by omega) (by omega)
    · intro n s i xs h0 h1 hd ih
      simp only [d_spec_TableOk_L2_s]
      unfold d_spec_TableOk_L2_B
      simp only [hd, cond_true, e4, ih (), List.all_cons]
      cases (ints 0 c.toNat).all fun b => (!(i == b) || besB l i i) && (besB l i b == besB l b i) <;> rfl
    · intro n s i hd
      simp only [d_spec_TableOk_L2_s]
      unfold d_spec_TableOk_L2_B
      simp only [hd, cond_false]
      rfl
  rw [e9]
  congr 1
  apply Bool.eq_iff_iff.2
  simp only [List.all_eq_true, Bool.and_eq_true, Bool.or_eq_true, Bool.not_eq_true', beq_eq_false_iff_ne, beq_iff_eq]
  constructor
  · intro h a ha
    refine ⟨?_, fun b hb => (h a ha b hb).2⟩
    rcases (h a ha a ha).1 with h1 | h1
    · exact absurd rfl h1
    · exact h1
  · intro h a ha b hb
    exact ⟨.inr (h a ha).1, (h a ha).2 b hb⟩

/-! ### fitting -/
theorem len3 {l : List Int} (h : l.length = 3) : ∃ p q s, l = [p, q, s] := by
  match l, h with
  | [p, q, s], _ => exact ⟨p, q, s, rfl⟩
theorem s_sid {fu : Nat} (hfu : 2097153 ≤ fu) (a b c : Int) : d_spec_l5Sides fu a b c = some [(sid a b c).1, (sid a b c).2.1, (sid a b c).2.2] := by
  unfold d_spec_l5Sides
  rw [s_up hfu (by simp), ob_some, show [a, b, c].length = 3 from rfl]
  have hp := srt_perm (kf [a, b, c]) 3
  have hs := srt_sorted (kf [a, b, c]) 3
  obtain ⟨p, q, s, hq⟩ := len3 (srt_len (kf [a, b, c]) 3)
  rw [hq] at hp hs ⊢
  have hmem : ∀ x ∈ [p, q, s], 0 ≤ x ∧ x < 3 := fun x hx => by
    have := ints_mem.1 (hp.mem_iff.1 hx)
    omega
  have k1 := kf_ix (keys := [a, b, c]) (p := p) (by have := hmem p (by simp); simpa using this)
  have k2 := kf_ix (keys := [a, b, c]) (p := q) (by have := hmem q (by simp); simpa using this)
  have k3 := kf_ix (keys := [a, b, c]) (p := s) (by have := hmem s (by simp); simpa using this)
  rw [show ix [p, q, s] 0 = some p from rfl, show ix [p, q, s] 1 = some q from rfl, show ix [p, q, s] 2 = some s from rfl]
  simp only [ob_some, k1, k2, k3]
  have hp3 : ([a, b, c]).Perm [kf [a, b, c] p, kf [a, b, c] q, kf [a, b, c] s] := (hp.map (kf [a, b, c])).symm
  simp only [List.pairwise_cons, List.mem_cons, List.not_mem_nil, or_false, forall_eq_or_imp, forall_eq, lx] at hs
  have := perm3 hp3 (by omega) (by omega)
  rw [this]
theorem s_fit {fu : Nat} (hfu : 2097153 ≤ fu) (x : Item) (t : Typ) : d_spec_Fits fu x t = some (fitB x t) := by
  unfold d_spec_Fits fitB
  rw [s_sid hfu, s_sid hfu]
  simp only [ob_some]
  have e0 : ∀ a b c : Int, ix [a, b, c] 0 = some a := fun _ _ _ => rfl
  have e1 : ∀ a b c : Int, ix [a, b, c] 1 = some b := fun _ _ _ => rfl
  have e2 : ∀ a b c : Int, ix [a, b, c] 2 = some c := fun _ _ _ => rfl
  simp only [e0, e1, e2, ob_some]
  cases decide ((sid x.fW x.fH x.fD).1 ≤ (sid t.fW t.fH t.fD).1) <;> cases decide ((sid x.fW x.fH x.fD).2.1 ≤ (sid t.fW t.fH t.fD).2.1) <;> cases decide ((sid x.fW x.fH x.fD).2.2 ≤ (sid t.fW t.fH t.fD).2.2) <;> rfl
theorem sortI3 (a b c : Int) : sortI [a, b, c] = some [(sid a b c).1, (sid a b c).2.1, (sid a b c).2.2] := by
  unfold sortI
  rw [if_pos (by simp)]
  have hp := List.mergeSort_perm [a, b, c] (fun x y => decide (x ≤ y))
  have hs := mergeSort_le [a, b, c]
  obtain ⟨p, q, s, hq⟩ := len3 (hp.length_eq)
  rw [hq] at hp hs ⊢
  simp only [List.pairwise_cons, List.mem_cons, List.not_mem_nil, or_false, forall_eq_or_imp, forall_eq] at hs
  rw [perm3 hp.symm (by omega) (by omega)]
theorem i_fit (fu : Nat) (x : Item) (t : Typ) : d_impl_Fits fu x t = some (fitB x t) := by
  unfold d_impl_Fits d_impl_Fits_J1 d_slices_Sort_int_int fitB
  rw [sortI3, sortI3]
  have e0 : ∀ a b c : Int, ix [a, b, c] 0 = some a := fun _ _ _ => rfl
  have e1 : ∀ a b c : Int, ix [a, b, c] 1 = some b := fun _ _ _ => rfl
  have e2 : ∀ a b c : Int, ix [a, b, c] 2 = some c := fun _ _ _ => rfl
  simp only [ob_some, e0, e1, e2]
  cases decide ((sid x.fW x.fH x.fD).1 ≤ (sid t.fW t.fH t.fD).1) <;> cases decide ((sid x.fW x.fH x.fD).2.1 ≤ (sid t.fW t.fH t.fD).2.1) <;> cases decide ((sid x.fW x.fH x.fD).2.2 ≤ (sid t.fW t.fH t.fD).2.2) <;> rfl

/-! ### the reason -/
theorem s_cls {fu : Nat} {r : Request} (h : Sm fu r) : d_spec_Class fu r = some (clsM r) := by
  have hfu := h.fu
  have h1 := h.items
  have h2 := h.types
  have h3 := h.pairs
  have e4 : d_spec_Class_L1 fu r fu 0 = some (bif r.fTypes.any (tooB r.fPallet) then 6 else 0) := by
    refine lp r.fTypes (fun n (_ : Unit) i => d_spec_Class_L1 fu r n i) (fun l _ => some (bif l.any (tooB r.fPallet) then 6 else 0)) (by omega) ?_ ?_ fu () (by omega)
    · intro n s i x xs hx hd ih
      simp only [d_spec_Class_L1_s]
      unfold d_spec_Class_L1_B d_spec_Class_J1
      simp only [hd, cond_true, hx, ob_some, ih (), List.any_cons, tooB]
      cases decide (x.fW > r.fPallet.fW) <;> cases decide (x.fD > r.fPallet.fD) <;> cases decide (x.fH > r.fPallet.fH) <;> cases decide (w64 (x.fTare + x.fGram) > r.fPallet.fGram) <;> rfl
    · intro n s i hd
      simp only [d_spec_Class_L1_s]
      unfold d_spec_Class_L1_B
      simp only [hd, cond_false]
      rfl
  unfold d_spec_Class clsM
  rw [s_bou h, ob_some, s_nam h, ob_some, s_tab h3 (by omega) (by omega), ob_some, s_mas h, ob_some]
  have e1 : d_spec_Class_L2 fu r (othM (typM r r.fMaster)) fu 0 = some (bif !(r.fItems.all fun x => fitB x (masM r)) then 5 else bif r.fTypes.any (tooB r.fPallet) then 6 else 0) := by
    refine lp r.fItems (fun n (_ : Unit) i => d_spec_Class_L2 fu r (othM (typM r r.fMaster)) n i) (fun l _ => some (bif !(l.all fun x => fitB x (masM r)) then 5 else bif r.fTypes.any (tooB r.fPallet) then 6 else 0)) (by omega) ?_ ?_ fu () (by omega)
    · intro n s i x xs hx hd ih
      simp only [d_spec_Class_L2_s]
      unfold d_spec_Class_L2_B
      simp only [hd, cond_true, hx, ob_some, s_fit hfu, ih (), List.all_cons]
      rw [show (othM (typM r r.fMaster)).1 = masM r from rfl]
      cases fitB x (masM r) <;> rfl
    · intro n s i hd
      simp only [d_spec_Class_L2_s]
      unfold d_spec_Class_L2_B
      simp only [hd, cond_false, e4]
      rfl
  rw [e1]
  cases bouB r <;> cases namB r <;> cases tabB r.fPairs r.fClasses <;> rfl
theorem i_cls {fu : Nat} {r : Request} (h : Sm fu r) : d_impl_Class fu r = some (clsM r) := by
  have hfu := h.fu
  have h1 := h.items
  have h2 := h.types
  have h3 := h.pairs
  unfold d_impl_Class clsM
  rw [i_mas h, ob_some, i_bou h, ob_some, i_nam h, ob_some, i_tab h3 (by omega) (by omega), ob_some]
  rw [i_anyItem (fun y => d_impl_Class_1 fu y (othM (typM r r.fMaster)).1) (fun x => !fitB x (masM r)) (fun x _ => by
    unfold d_impl_Class_1
    rw [i_fit, ob_some]; rfl) h1 (by omega), ob_some]
  rw [i_anyTyp (fun y => d_impl_Class_2 fu y r.fPallet) (tooB r.fPallet) (fun x _ => by
    unfold d_impl_Class_2 tooB
    cases decide (x.fW > r.fPallet.fW) <;> cases decide (x.fD > r.fPallet.fD) <;> cases decide (x.fH > r.fPallet.fH) <;> rfl) h2 (by omega), ob_some]
  rw [show (r.fItems.any fun x => !fitB x (masM r)) = !(r.fItems.all fun x => fitB x (masM r)) by simp [List.not_all_eq_any_not]]
  cases bouB r <;> cases namB r <;> cases tabB r.fPairs r.fClasses <;> cases r.fItems.all fun x => fitB x (masM r) <;> cases r.fTypes.any (tooB r.fPallet) <;> rfl
theorem i_sound {fu : Nat} {r : Request} (h : Sm fu r) : d_impl_sound fu r = some (clsM r == 0) := by
  unfold d_impl_sound
  rw [i_cls h]; rfl
end Go.Proofs.YthjbcfefkdbgoaaGreat
