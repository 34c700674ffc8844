/- FnExactPromise: the walks of functions that the law reaches, part 7. Printed by gen.py. -/
import Derived.Test.YthjbcfefkdbgoaaGreatExactPromiseW6
set_option maxRecDepth 20000
set_option linter.unusedSimpArgs false
set_option linter.unusedVariables false
namespace Go.Proofs.YthjbcfefkdbgoaaGreat
open Go Go.RowKit
open Enc (rd ow)
open Arg (argv)
open Ret (retv)

theorem ta28 : TA Tryz.prog 28 10 := ⟨Tryz.isAgg28, Tryz.sizeOf28⟩

def d_laws_eqPallet (fu : Nat) (a1 : Pallet) (b2 : Pallet) : Option (Bool) :=
  bif (a1.fW != b2.fW) then some (false) else bif (a1.fD != b2.fD) then some (false) else bif (a1.fH != b2.fH) then some (false) else bif (a1.fGram != b2.fGram) then some (false) else some (true)

def d_laws_eqPair (fu : Nat) (a1 : Pair) (b2 : Pair) : Option (Bool) :=
  bif (a1.fA != b2.fA) then some (false) else bif (a1.fB != b2.fB) then some (false) else some (true)

def d_laws_eqPairS_L1_B (fu : Nat)  (a1 : List Pair) (b5 : List Pair) (k1 : Int → Option (Bool)) (i36 : Int) : Option (Bool) :=
  bif (decide (i36 < ((a1.length : Int)))) then obind (ix a1 i36) fun x40 => obind (ix b5 i36) fun x42 => obind (d_laws_eqPair fu x40 x42) fun x44 => bif (!x44) then some (false) else k1 (w64 (i36 + 1)) else some (true)
def d_laws_eqPairS_L1 (fu : Nat)  (a1 : List Pair) (b5 : List Pair) : Nat → Int → Option (Bool)
  | 0 => fun _ => none
  | n + 1 => d_laws_eqPairS_L1_B fu a1 b5 (d_laws_eqPairS_L1 fu a1 b5 n)
theorem d_laws_eqPairS_L1_s (fu : Nat)  (a1 : List Pair) (b5 : List Pair) (n : Nat) : d_laws_eqPairS_L1 fu a1 b5 (n + 1) = d_laws_eqPairS_L1_B fu a1 b5 (d_laws_eqPairS_L1 fu a1 b5 n) := rfl

def d_laws_eqPairS (fu : Nat) (a1 : List Pair) (b5 : List Pair) : Option (Bool) :=
  bif (((a1.length : Int)) != ((b5.length : Int))) then some (false) else d_laws_eqPairS_L1 fu a1 b5 fu 0

def d_laws_eqType (fu : Nat) (a1 : Typ) (b2 : Typ) : Option (Bool) :=
  bif (a1.fId != b2.fId) then some (false) else bif (a1.fW != b2.fW) then some (false) else bif (a1.fH != b2.fH) then some (false) else bif (a1.fD != b2.fD) then some (false) else bif (a1.fTare != b2.fTare) then some (false) else bif (a1.fGram != b2.fGram) then some (false) else bif (a1.fCost != b2.fCost) then some (false) else some (true)

def d_laws_eqTypeS_L1_B (fu : Nat)  (a1 : List Typ) (b5 : List Typ) (k1 : Int → Option (Bool)) (i36 : Int) : Option (Bool) :=
  bif (decide (i36 < ((a1.length : Int)))) then obind (ix a1 i36) fun x40 => obind (ix b5 i36) fun x42 => obind (d_laws_eqType fu x40 x42) fun x44 => bif (!x44) then some (false) else k1 (w64 (i36 + 1)) else some (true)
def d_laws_eqTypeS_L1 (fu : Nat)  (a1 : List Typ) (b5 : List Typ) : Nat → Int → Option (Bool)
  | 0 => fun _ => none
  | n + 1 => d_laws_eqTypeS_L1_B fu a1 b5 (d_laws_eqTypeS_L1 fu a1 b5 n)
theorem d_laws_eqTypeS_L1_s (fu : Nat)  (a1 : List Typ) (b5 : List Typ) (n : Nat) : d_laws_eqTypeS_L1 fu a1 b5 (n + 1) = d_laws_eqTypeS_L1_B fu a1 b5 (d_laws_eqTypeS_L1 fu a1 b5 n) := rfl

def d_laws_eqTypeS (fu : Nat) (a1 : List Typ) (b5 : List Typ) : Option (Bool) :=
  bif (((a1.length : Int)) != ((b5.length : Int))) then some (false) else d_laws_eqTypeS_L1 fu a1 b5 fu 0

def d_laws_eqItem (fu : Nat) (a1 : Item) (b2 : Item) : Option (Bool) :=
  bif (a1.fId != b2.fId) then some (false) else bif (a1.fW != b2.fW) then some (false) else bif (a1.fH != b2.fH) then some (false) else bif (a1.fD != b2.fD) then some (false) else bif (a1.fGram != b2.fGram) then some (false) else bif (a1.fClass != b2.fClass) then some (false) else bif (a1.fCount != b2.fCount) then some (false) else some (true)

def d_laws_eqItemS_L1_B (fu : Nat)  (a1 : List Item) (b5 : List Item) (k1 : Int → Option (Bool)) (i36 : Int) : Option (Bool) :=
  bif (decide (i36 < ((a1.length : Int)))) then obind (ix a1 i36) fun x40 => obind (ix b5 i36) fun x42 => obind (d_laws_eqItem fu x40 x42) fun x44 => bif (!x44) then some (false) else k1 (w64 (i36 + 1)) else some (true)
def d_laws_eqItemS_L1 (fu : Nat)  (a1 : List Item) (b5 : List Item) : Nat → Int → Option (Bool)
  | 0 => fun _ => none
  | n + 1 => d_laws_eqItemS_L1_B fu a1 b5 (d_laws_eqItemS_L1 fu a1 b5 n)
theorem d_laws_eqItemS_L1_s (fu : Nat)  (a1 : List Item) (b5 : List Item) (n : Nat) : d_laws_eqItemS_L1 fu a1 b5 (n + 1) = d_laws_eqItemS_L1_B fu a1 b5 (d_laws_eqItemS_L1 fu a1 b5 n) := rfl

def d_laws_eqItemS (fu : Nat) (a1 : List Item) (b5 : List Item) : Option (Bool) :=
  bif (((a1.length : Int)) != ((b5.length : Int))) then some (false) else d_laws_eqItemS_L1 fu a1 b5 fu 0

def d_laws_eqRequest (fu : Nat) (a1 : Request) (b5 : Request) : Option (Bool) :=
  bif (a1.fWay != b5.fWay) then some (false) else obind (d_laws_eqPallet fu a1.fPallet b5.fPallet) fun x34 => bif (!x34) then some (false) else bif (a1.fClasses != b5.fClasses) then some (false) else obind (d_laws_eqPairS fu a1.fPairs b5.fPairs) fun x40 => bif (!x40) then some (false) else obind (d_laws_eqTypeS fu a1.fTypes b5.fTypes) fun x45 => bif (!x45) then some (false) else bif (a1.fMaster != b5.fMaster) then some (false) else obind (d_laws_eqItemS fu a1.fItems b5.fItems) fun x51 => bif (!x51) then some (false) else some (true)

def d_laws_FnExactPromise (fu : Nat) (aR1 : Request) (aK5 : Int) (aN6 : Int) : Option (Bool) :=
  obind (d_laws_szRequest fu aR1 1048576) fun x19 => bif (decide (x19 < 0)) then some (true) else obind (d_laws_toRequest fu aR1) fun x24 => obind (d_spec_Promise fu x24 aK5 aN6) fun x42 => obind (d_laws_toRequest fu aR1) fun x46 => obind (d_impl_Promise fu x46 aK5 aN6) fun x69 => bif (x69 != x42) then some (false) else obind (d_laws_toRequest fu aR1) fun x75 => obind (d_laws_eqRequest fu x46 x75) fun x94 => bif (!x94) then some (false) else some (true)

theorem c_laws_eqPallet (fu : Nat) {w0 : World} (a1 : Pallet) (b2 : Pallet)  {r : Bool}
    (h : d_laws_eqPallet fu a1 b2 = some r) :
    Calls Tryz.prog 79 #[.agg (Flat.e (a1)).toArray, .agg (Flat.e (b2)).toArray] w0 fun e w => e = .returned (.bool (r)) ∧ Ext [] w0 w := by
  refine enter (vs := [_, _]) Tryz.func79 rfl Tryz.ntmps79 rfl fun a hK => ?_
  have hM := St.start w0
  unfold d_laws_eqPallet at h
  refine wp_seq ?_
  refine wp_region_lit ?_
  refine s_box (cs := [.int .i64 (a1.fW), .int .i64 (a1.fD), .int .i64 (a1.fH), .int .i64 (a1.fGram)]) hM hK rfl rfl rfl rfl rfl rfl fun b3 w5 a hK hM hE hb4 => ?_
  refine s_box (cs := [.int .i64 (b2.fW), .int .i64 (b2.fD), .int .i64 (b2.fH), .int .i64 (b2.fGram)]) hM hK rfl rfl rfl rfl rfl rfl fun b6 w8 a hK hM hE hb7 => ?_
  refine s1 hK rfl rfl rfl rfl fun a hK => ?_
  refine wpList_nil (nm_then ?_)
  refine wp_seq ?_
  refine wp_seq ?_
  refine wp_region_lit ?_
  refine s_val hK rfl rfl rfl (r_fa fa35_0 hK rfl rfl) fun a hK => ?_
  refine s_val hK rfl rfl rfl (r_ldb t13 hM 1 hb4 0 hK rfl rfl rfl rfl rfl) fun a hK => ?_
  refine s_val hK rfl rfl rfl (r_fa fa35_0 hK rfl rfl) fun a hK => ?_
  refine s_val hK rfl rfl rfl (r_ldb t13 hM 0 hb7 0 hK rfl rfl rfl rfl rfl) fun a hK => ?_
  refine s1 hK rfl rfl rfl rfl fun a hK => ?_
  refine wpList_nil (nm_then ?_)
  refine c_cond (b := a1.fW != b2.fW) hK rfl (fun hb9 => ?_) (fun hb9 => ?_)
  · have h := bif_t hb9 h
    refine wp_seq ?_
    refine wp_region_lit ?_
    refine s1 hK rfl rfl rfl rfl fun a hK => ?_
    refine wpList_nil (nm_then ?_)
    refine wp_ret (rt_then ?_)
    have h := Option.some.inj h
    subst h
    exact finR1 hK rfl (RV.tmp hK rfl) ⟨rfl, hM.ext⟩
  · have h := bif_f hb9 h
    refine wp_skip (nm_then ?_)
    refine wp_seq ?_
    refine wp_seq ?_
    refine wp_region_lit ?_
    refine s_val hK rfl rfl rfl (r_fa fa35_1 hK rfl rfl) fun a hK => ?_
    refine s_val hK rfl rfl rfl (r_ldb t13 hM 1 hb4 1 hK rfl rfl rfl rfl rfl) fun a hK => ?_
    refine s_val hK rfl rfl rfl (r_fa fa35_1 hK rfl rfl) fun a hK => ?_
    refine s_val hK rfl rfl rfl (r_ldb t13 hM 0 hb7 1 hK rfl rfl rfl rfl rfl) fun a hK => ?_
    refine s1 hK rfl rfl rfl rfl fun a hK => ?_
    refine wpList_nil (nm_then ?_)
    refine c_cond (b := a1.fD != b2.fD) hK rfl (fun hb10 => ?_) (fun hb10 => ?_)
    · have h := bif_t hb10 h
      refine wp_seq ?_
      refine wp_region_lit ?_
      refine s1 hK rfl rfl rfl rfl fun a hK => ?_
      refine wpList_nil (nm_then ?_)
      refine wp_ret (rt_then ?_)
      have h := Option.some.inj h
      subst h
      exact finR1 hK rfl (RV.tmp hK rfl) ⟨rfl, hM.ext⟩
    · have h := bif_f hb10 h
      refine wp_skip (nm_then ?_)
      refine wp_seq ?_
      refine wp_seq ?_
      refine wp_region_lit ?_
      refine s_val hK rfl rfl rfl (r_fa fa35_2 hK rfl rfl) fun a hK => ?_
      refine s_val hK rfl rfl rfl (r_ldb t13 hM 1 hb4 2 hK rfl rfl rfl rfl rfl) fun a hK => ?_
      refine s_val hK rfl rfl rfl (r_fa fa35_2 hK rfl rfl) fun a hK => ?_
      refine s_val hK rfl rfl rfl (r_ldb t13 hM 0 hb7 2 hK rfl rfl rfl rfl rfl) fun a hK => ?_
      refine s1 hK rfl rfl rfl rfl fun a hK => ?_
      refine wpList_nil (nm_then ?_)
      refine c_cond (b := a1.fH != b2.fH) hK rfl (fun hb11 => ?_) (fun hb11 => ?_)
      · have h := bif_t hb11 h
        refine wp_seq ?_
        refine wp_region_lit ?_
        refine s1 hK rfl rfl rfl rfl fun a hK => ?_
        refine wpList_nil (nm_then ?_)
        refine wp_ret (rt_then ?_)
        have h := Option.some.inj h
        subst h
        exact finR1 hK rfl (RV.tmp hK rfl) ⟨rfl, hM.ext⟩
      · have h := bif_f hb11 h
        refine wp_skip (nm_then ?_)
        refine wp_seq ?_
        refine wp_seq ?_
        refine wp_region_lit ?_
        refine s_val hK rfl rfl rfl (r_fa fa35_3 hK rfl rfl) fun a hK => ?_
        refine s_val hK rfl rfl rfl (r_ldb t13 hM 1 hb4 3 hK rfl rfl rfl rfl rfl) fun a hK => ?_
        refine s_val hK rfl rfl rfl (r_fa fa35_3 hK rfl rfl) fun a hK => ?_
        refine s_val hK rfl rfl rfl (r_ldb t13 hM 0 hb7 3 hK rfl rfl rfl rfl rfl) fun a hK => ?_
        refine s1 hK rfl rfl rfl rfl fun a hK => ?_
        refine wpList_nil (nm_then ?_)
        refine c_cond (b := a1.fGram != b2.fGram) hK rfl (fun hb12 => ?_) (fun hb12 => ?_)
        · have h := bif_t hb12 h
          refine wp_seq ?_
          refine wp_region_lit ?_
          refine s1 hK rfl rfl rfl rfl fun a hK => ?_
          refine wpList_nil (nm_then ?_)
          refine wp_ret (rt_then ?_)
          have h := Option.some.inj h
          subst h
          exact finR1 hK rfl (RV.tmp hK rfl) ⟨rfl, hM.ext⟩
        · have h := bif_f hb12 h
          refine wp_skip (nm_then ?_)
          refine wp_seq ?_
          refine wp_region_lit ?_
          refine s1 hK rfl rfl rfl rfl fun a hK => ?_
          refine wpList_nil (nm_then ?_)
          refine wp_ret ?_
          have h := Option.some.inj h
          subst h
          exact finR1 hK rfl (RV.tmp hK rfl) ⟨rfl, hM.ext⟩

theorem c_laws_eqPair (fu : Nat) {w0 : World} (a1 : Pair) (b2 : Pair)  {r : Bool}
    (h : d_laws_eqPair fu a1 b2 = some r) :
    Calls Tryz.prog 144 #[.agg (Flat.e (a1)).toArray, .agg (Flat.e (b2)).toArray] w0 fun e w => e = .returned (.bool (r)) ∧ Ext [] w0 w := by
  refine enter (vs := [_, _]) Tryz.func144 rfl Tryz.ntmps144 rfl fun a hK => ?_
  have hM := St.start w0
  unfold d_laws_eqPair at h
  refine wp_seq ?_
  refine wp_region_lit ?_
  refine s_box (cs := [.int .i64 (a1.fA), .int .i64 (a1.fB)]) hM hK rfl rfl rfl rfl rfl rfl fun b3 w5 a hK hM hE hb4 => ?_
  refine s_box (cs := [.int .i64 (b2.fA), .int .i64 (b2.fB)]) hM hK rfl rfl rfl rfl rfl rfl fun b6 w8 a hK hM hE hb7 => ?_
  refine s1 hK rfl rfl rfl rfl fun a hK => ?_
  refine wpList_nil (nm_then ?_)
  refine wp_seq ?_
  refine wp_seq ?_
  refine wp_region_lit ?_
  refine s_val hK rfl rfl rfl (r_fa fa144_0 hK rfl rfl) fun a hK => ?_
  refine s_val hK rfl rfl rfl (r_ldb t13 hM 1 hb4 0 hK rfl rfl rfl rfl rfl) fun a hK => ?_
  refine s_val hK rfl rfl rfl (r_fa fa144_0 hK rfl rfl) fun a hK => ?_
  refine s_val hK rfl rfl rfl (r_ldb t13 hM 0 hb7 0 hK rfl rfl rfl rfl rfl) fun a hK => ?_
  refine s1 hK rfl rfl rfl rfl fun a hK => ?_
  refine wpList_nil (nm_then ?_)
  refine c_cond (b := a1.fA != b2.fA) hK rfl (fun hb9 => ?_) (fun hb9 => ?_)
  · have h := bif_t hb9 h
    refine wp_seq ?_
    refine wp_region_lit ?_
    refine s1 hK rfl rfl rfl rfl fun a hK => ?_
    refine wpList_nil (nm_then ?_)
    refine wp_ret (rt_then ?_)
    have h := Option.some.inj h
    subst h
    exact finR1 hK rfl (RV.tmp hK rfl) ⟨rfl, hM.ext⟩
  · have h := bif_f hb9 h
    refine wp_skip (nm_then ?_)
    refine wp_seq ?_
    refine wp_seq ?_
    refine wp_region_lit ?_
    refine s_val hK rfl rfl rfl (r_fa fa144_1 hK rfl rfl) fun a hK => ?_
    refine s_val hK rfl rfl rfl (r_ldb t13 hM 1 hb4 1 hK rfl rfl rfl rfl rfl) fun a hK => ?_
    refine s_val hK rfl rfl rfl (r_fa fa144_1 hK rfl rfl) fun a hK => ?_
    refine s_val hK rfl rfl rfl (r_ldb t13 hM 0 hb7 1 hK rfl rfl rfl rfl rfl) fun a hK => ?_
    refine s1 hK rfl rfl rfl rfl fun a hK => ?_
    refine wpList_nil (nm_then ?_)
    refine c_cond (b := a1.fB != b2.fB) hK rfl (fun hb10 => ?_) (fun hb10 => ?_)
    · have h := bif_t hb10 h
      refine wp_seq ?_
      refine wp_region_lit ?_
      refine s1 hK rfl rfl rfl rfl fun a hK => ?_
      refine wpList_nil (nm_then ?_)
      refine wp_ret (rt_then ?_)
      have h := Option.some.inj h
      subst h
      exact finR1 hK rfl (RV.tmp hK rfl) ⟨rfl, hM.ext⟩
    · have h := bif_f hb10 h
      refine wp_skip (nm_then ?_)
      refine wp_seq ?_
      refine wp_region_lit ?_
      refine s1 hK rfl rfl rfl rfl fun a hK => ?_
      refine wpList_nil (nm_then ?_)
      refine wp_ret ?_
      have h := Option.some.inj h
      subst h
      exact finR1 hK rfl (RV.tmp hK rfl) ⟨rfl, hM.ext⟩

theorem c_laws_eqPairS (fu : Nat) {w0 : World} (a1 : List Pair) (b5 : List Pair) {v2 : Value} {F3 : List Nat} (hp4 : rd w0 F3 [v2] a1) {v6 : Value} {F7 : List Nat} (hp8 : rd w0 F7 [v6] b5) {r : Bool}
    (h : d_laws_eqPairS fu a1 b5 = some r) :
    Calls Tryz.prog 80 #[v2, v6] w0 fun e w => e = .returned (.bool (r)) ∧ Ext [] w0 w := by
  refine enter (vs := [_, _]) Tryz.func80 rfl Tryz.ntmps80 rfl fun a hK => ?_
  have hM := St.start w0
  unfold d_laws_eqPairS at h
  refine wp_seq ?_
  refine wp_region_lit ?_
  refine s1 hK rfl rfl rfl rfl fun a hK => ?_
  refine wpList_nil (nm_then ?_)
  refine wp_seq ?_
  refine wp_seq ?_
  refine wp_region_lit ?_
  refine s1 hK rfl rfl rfl rfl fun a hK => ?_
  refine s_val hK rfl rfl rfl (r_len (α := Pair) hp4 hK Tryz.underlying36 rfl rfl) fun a hK => ?_
  refine s1 hK rfl rfl rfl rfl fun a hK => ?_
  refine s_val hK rfl rfl rfl (r_len (α := Pair) hp8 hK Tryz.underlying36 rfl rfl) fun a hK => ?_
  refine s1 hK rfl rfl rfl rfl fun a hK => ?_
  refine wpList_nil (nm_then ?_)
  refine c_cond (b := ((a1.length : Int)) != ((b5.length : Int))) hK rfl (fun hb9 => ?_) (fun hb9 => ?_)
  · have h := bif_t hb9 h
    refine wp_seq ?_
    refine wp_region_lit ?_
    refine s1 hK rfl rfl rfl rfl fun a hK => ?_
    refine wpList_nil (nm_then ?_)
    refine wp_ret (rt_then ?_)
    have h := Option.some.inj h
    subst h
    exact finR1 hK rfl (RV.tmp hK rfl) ⟨rfl, hM.ext⟩
  · have h := bif_f hb9 h
    refine wp_skip (nm_then ?_)
    refine wp_seq ?_
    refine wp_seq ?_
    refine wp_region_lit ?_
    refine s1 hK rfl rfl rfl rfl fun a hK => ?_
    refine wpList_nil (nm_then ?_)
    refine wp_block ?_
    refine c_loop (fun n a w => ∃ (i36 : Int), K 27 [(0, v2), (1, v6), (5, .int .i64 (i36))] a ∧ St [] w0 w [] ∧ d_laws_eqPairS_L1 fu a1 b5 n i36 = some r) ?_ ?_ fu _ _ ?_
    · rintro a w ⟨_, _, _, h⟩
      cases (show none = some _ from h)
    · rintro m37 a w35 ⟨i36, hK, hM, h⟩
      rw [d_laws_eqPairS_L1_s] at h
      unfold d_laws_eqPairS_L1_B at h
      refine wp_seq ?_
      refine wp_seq ?_
      refine wp_region_lit ?_
      iterate 2 (refine s1 hK rfl rfl rfl rfl fun a hK => ?_)
      refine s_val hK rfl rfl rfl (r_len (α := Pair) hp4 hK Tryz.underlying36 rfl rfl) fun a hK => ?_
      refine s1 hK rfl rfl rfl rfl fun a hK => ?_
      refine wpList_nil (nm_then ?_)
      refine c_cond (b := decide (i36 < ((a1.length : Int)))) hK rfl (fun hb38 => ?_) (fun hb38 => ?_)
      · have h := bif_t hb38 h
        refine wp_skip (nm_then ?_)
        refine wp_seq ?_
        refine wp_block ?_
        refine wp_seq ?_
        refine d_go [] mixo hM rfl fun w39 hMd => ?_
        have hM := hMd
        have hS := Ext.refl ([] : List Nat) w39
        refine d_pure hK 0 rfl (by kernel_rfl) (by kernel_rfl) (by kernel_rfl) rfl rfl rfl hS (fun _ _ _ h => h) rfl fun a hK => ?_
        refine d_pure hK 1 rfl (by kernel_rfl) (by kernel_rfl) (by kernel_rfl) rfl rfl rfl hS (fun _ _ _ h => h) rfl fun a hK => ?_
        obtain ⟨x40, hx41, h⟩ := obind_some h
        refine d_take hK 2 rfl (by kernel_rfl) (by kernel_rfl) (by kernel_rfl) rfl rfl rfl hS (fun _ _ _ h => h) (fun w hS => r_ixa hp4 hx41 hK ts36 rfl rfl rfl) fun a hK => ?_
        refine d_take hK 3 rfl (by kernel_rfl) (by kernel_rfl) (by kernel_rfl) rfl rfl rfl hS (fun _ _ _ h => h) (fun w hS => r_lde hp4 ((hMd.step hS).a00 (Enc.rd_lt hp4)) hx41 ta144 hK rfl rfl) fun a hK => ?_
        refine d_pure hK 4 rfl (by kernel_rfl) (by kernel_rfl) (by kernel_rfl) rfl rfl rfl hS (fun _ _ _ h => h) rfl fun a hK => ?_
        refine d_pure hK 5 rfl (by kernel_rfl) (by kernel_rfl) (by kernel_rfl) rfl rfl rfl hS (fun _ _ _ h => h) rfl fun a hK => ?_
        obtain ⟨x42, hx43, h⟩ := obind_some h
        refine d_take hK 6 rfl (by kernel_rfl) (by kernel_rfl) (by kernel_rfl) rfl rfl rfl hS (fun _ _ _ h => h) (fun w hS => r_ixa hp8 hx43 hK ts36 rfl rfl rfl) fun a hK => ?_
        refine d_take hK 7 rfl (by kernel_rfl) (by kernel_rfl) (by kernel_rfl) rfl rfl rfl hS (fun _ _ _ h => h) (fun w hS => r_lde hp8 ((hMd.step hS).a00 (Enc.rd_lt hp8)) hx43 ta144 hK rfl rfl) fun a hK => ?_
        refine d_one 8 (by kernel_rfl) rfl ?_
        obtain ⟨x44, hx45, h⟩ := obind_some h
        refine s_call hK Tryz.call144 rfl rfl rfl rfl rfl (c_laws_eqPair fu (x40 : Pair) (x42 : Pair)  hx45) fun e46 w47 hR => ?_
        obtain ⟨rfl, hE⟩ := hR
        refine ⟨_, rfl, fun a hK => ?_⟩
        have hM := hM.step hE
        have hS := hS.trans hE (by simp)
        refine wpList_nil ⟨hS, ?_⟩
        refine d_pure hK 9 rfl (by kernel_rfl) (by kernel_rfl) (by kernel_rfl) rfl rfl rfl hS (fun _ _ _ h => h) rfl fun a hK => ?_
        refine d_done (by kernel_rfl) ?_
        refine (nm_then ?_)
        refine c_cond (b := !x44) hK rfl (fun hb48 => ?_) (fun hb48 => ?_)
        · have h := bif_t hb48 h
          refine wp_seq ?_
          refine wp_region_lit ?_
          refine s1 hK rfl rfl rfl rfl fun a hK => ?_
          refine wpList_nil (nm_then ?_)
          refine wp_ret (rt_block (rt_then (rt_then (rt_block (rt_then ?_)))))
          have h := Option.some.inj h
          subst h
          exact finR1 hK rfl (RV.tmp hK rfl) ⟨rfl, hM.ext⟩
        · have h := bif_f hb48 h
          refine wp_skip (nm_block (nm_then ?_))
          refine wp_region_lit ?_
          iterate 3 (refine s1 hK rfl rfl rfl rfl fun a hK => ?_)
          refine wpList_nil (nm_then ?_)
          exact ⟨w64 (i36 + 1), hK.keep [0, 1, 5] rfl, hM.sel [] rfl (by decide), h⟩
      · have h := bif_f hb38 h
        refine wp_exit (ex_then (ex_then (ex_same (nm_then ?_))))
        refine wp_seq ?_
        refine wp_region_lit ?_
        refine s1 hK rfl rfl rfl rfl fun a hK => ?_
        refine wpList_nil (nm_then ?_)
        refine wp_ret ?_
        have h := Option.some.inj h
        subst h
        exact finR1 hK rfl (RV.tmp hK rfl) ⟨rfl, hM.ext⟩
    · exact ⟨0, hK.keep [0, 1, 5] rfl, hM.sel [] rfl (by decide), h⟩

theorem c_laws_eqType (fu : Nat) {w0 : World} (a1 : Typ) (b2 : Typ)  {r : Bool}
    (h : d_laws_eqType fu a1 b2 = some r) :
    Calls Tryz.prog 145 #[.agg (Flat.e (a1)).toArray, .agg (Flat.e (b2)).toArray] w0 fun e w => e = .returned (.bool (r)) ∧ Ext [] w0 w := by
  refine enter (vs := [_, _]) Tryz.func145 rfl Tryz.ntmps145 rfl fun a hK => ?_
  have hM := St.start w0
  unfold d_laws_eqType at h
  refine wp_seq ?_
  refine wp_region_lit ?_
  refine s_box (cs := [.int .i64 (a1.fId), .int .i64 (a1.fW), .int .i64 (a1.fH), .int .i64 (a1.fD), .int .i64 (a1.fTare), .int .i64 (a1.fGram), .int .i64 (a1.fCost)]) hM hK rfl rfl rfl rfl rfl rfl fun b3 w5 a hK hM hE hb4 => ?_
  refine s_box (cs := [.int .i64 (b2.fId), .int .i64 (b2.fW), .int .i64 (b2.fH), .int .i64 (b2.fD), .int .i64 (b2.fTare), .int .i64 (b2.fGram), .int .i64 (b2.fCost)]) hM hK rfl rfl rfl rfl rfl rfl fun b6 w8 a hK hM hE hb7 => ?_
  refine s1 hK rfl rfl rfl rfl fun a hK => ?_
  refine wpList_nil (nm_then ?_)
  refine wp_seq ?_
  refine wp_seq ?_
  refine wp_region_lit ?_
  refine s_val hK rfl rfl rfl (r_fa fa92_0 hK rfl rfl) fun a hK => ?_
  refine s_val hK rfl rfl rfl (r_ldb t13 hM 1 hb4 0 hK rfl rfl rfl rfl rfl) fun a hK => ?_
  refine s_val hK rfl rfl rfl (r_fa fa92_0 hK rfl rfl) fun a hK => ?_
  refine s_val hK rfl rfl rfl (r_ldb t13 hM 0 hb7 0 hK rfl rfl rfl rfl rfl) fun a hK => ?_
  refine s1 hK rfl rfl rfl rfl fun a hK => ?_
  refine wpList_nil (nm_then ?_)
  refine c_cond (b := a1.fId != b2.fId) hK rfl (fun hb9 => ?_) (fun hb9 => ?_)
  · have h := bif_t hb9 h
    refine wp_seq ?_
    refine wp_region_lit ?_
    refine s1 hK rfl rfl rfl rfl fun a hK => ?_
    refine wpList_nil (nm_then ?_)
    refine wp_ret (rt_then ?_)
    have h := Option.some.inj h
    subst h
    exact finR1 hK rfl (RV.tmp hK rfl) ⟨rfl, hM.ext⟩
  · have h := bif_f hb9 h
    refine wp_skip (nm_then ?_)
    refine wp_seq ?_
    refine wp_seq ?_
    refine wp_region_lit ?_
    refine s_val hK rfl rfl rfl (r_fa fa92_1 hK rfl rfl) fun a hK => ?_
    refine s_val hK rfl rfl rfl (r_ldb t13 hM 1 hb4 1 hK rfl rfl rfl rfl rfl) fun a hK => ?_
    refine s_val hK rfl rfl rfl (r_fa fa92_1 hK rfl rfl) fun a hK => ?_
    refine s_val hK rfl rfl rfl (r_ldb t13 hM 0 hb7 1 hK rfl rfl rfl rfl rfl) fun a hK => ?_
    refine s1 hK rfl rfl rfl rfl fun a hK => ?_
    refine wpList_nil (nm_then ?_)
    refine c_cond (b := a1.fW != b2.fW) hK rfl (fun hb10 => ?_) (fun hb10 => ?_)
    · have h := bif_t hb10 h
      refine wp_seq ?_
      refine wp_region_lit ?_
      refine s1 hK rfl rfl rfl rfl fun a hK => ?_
      refine wpList_nil (nm_then ?_)
      refine wp_ret (rt_then ?_)
      have h := Option.some.inj h
      subst h
      exact finR1 hK rfl (RV.tmp hK rfl) ⟨rfl, hM.ext⟩
    · have h := bif_f hb10 h
      refine wp_skip (nm_then ?_)
      refine wp_seq ?_
      refine wp_seq ?_
      refine wp_region_lit ?_
      refine s_val hK rfl rfl rfl (r_fa fa92_2 hK rfl rfl) fun a hK => ?_
      refine s_val hK rfl rfl rfl (r_ldb t13 hM 1 hb4 2 hK rfl rfl rfl rfl rfl) fun a hK => ?_
      refine s_val hK rfl rfl rfl (r_fa fa92_2 hK rfl rfl) fun a hK => ?_
      refine s_val hK rfl rfl rfl (r_ldb t13 hM 0 hb7 2 hK rfl rfl rfl rfl rfl) fun a hK => ?_
      refine s1 hK rfl rfl rfl rfl fun a hK => ?_
      refine wpList_nil (nm_then ?_)
      refine c_cond (b := a1.fH != b2.fH) hK rfl (fun hb11 => ?_) (fun hb11 => ?_)
      · have h := bif_t hb11 h
        refine wp_seq ?_
        refine wp_region_lit ?_
        refine s1 hK rfl rfl rfl rfl fun a hK => ?_
        refine wpList_nil (nm_then ?_)
        refine wp_ret (rt_then ?_)
        have h := Option.some.inj h
        subst h
        exact finR1 hK rfl (RV.tmp hK rfl) ⟨rfl, hM.ext⟩
      · have h := bif_f hb11 h
        refine wp_skip (nm_then ?_)
        refine wp_seq ?_
        refine wp_seq ?_
        refine wp_region_lit ?_
        refine s_val hK rfl rfl rfl (r_fa fa92_3 hK rfl rfl) fun a hK => ?_
        refine s_val hK rfl rfl rfl (r_ldb t13 hM 1 hb4 3 hK rfl rfl rfl rfl rfl) fun a hK => ?_
        refine s_val hK rfl rfl rfl (r_fa fa92_3 hK rfl rfl) fun a hK => ?_
        refine s_val hK rfl rfl rfl (r_ldb t13 hM 0 hb7 3 hK rfl rfl rfl rfl rfl) fun a hK => ?_
        refine s1 hK rfl rfl rfl rfl fun a hK => ?_
        refine wpList_nil (nm_then ?_)
        refine c_cond (b := a1.fD != b2.fD) hK rfl (fun hb12 => ?_) (fun hb12 => ?_)
        · have h := bif_t hb12 h
          refine wp_seq ?_
          refine wp_region_lit ?_
          refine s1 hK rfl rfl rfl rfl fun a hK => ?_
          refine wpList_nil (nm_then ?_)
          refine wp_ret (rt_then ?_)
          have h := Option.some.inj h
          subst h
          exact finR1 hK rfl (RV.tmp hK rfl) ⟨rfl, hM.ext⟩
        · have h := bif_f hb12 h
          refine wp_skip (nm_then ?_)
          refine wp_seq ?_
          refine wp_seq ?_
          refine wp_region_lit ?_
          refine s_val hK rfl rfl rfl (r_fa fa92_4 hK rfl rfl) fun a hK => ?_
          refine s_val hK rfl rfl rfl (r_ldb t13 hM 1 hb4 4 hK rfl rfl rfl rfl rfl) fun a hK => ?_
          refine s_val hK rfl rfl rfl (r_fa fa92_4 hK rfl rfl) fun a hK => ?_
          refine s_val hK rfl rfl rfl (r_ldb t13 hM 0 hb7 4 hK rfl rfl rfl rfl rfl) fun a hK => ?_
          refine s1 hK rfl rfl rfl rfl fun a hK => ?_
          have hK := hK.keep [2, 3, 29] rfl
          refine wpList_nil (nm_then ?_)
          refine c_cond (b := a1.fTare != b2.fTare) hK rfl (fun hb13 => ?_) (fun hb13 => ?_)
          · have h := bif_t hb13 h
            refine wp_seq ?_
            refine wp_region_lit ?_
            refine s1 hK rfl rfl rfl rfl fun a hK => ?_
            refine wpList_nil (nm_then ?_)
            refine wp_ret (rt_then ?_)
            have h := Option.some.inj h
            subst h
            exact finR1 hK rfl (RV.tmp hK rfl) ⟨rfl, hM.ext⟩
          · have h := bif_f hb13 h
            refine wp_skip (nm_then ?_)
            refine wp_seq ?_
            refine wp_seq ?_
            refine wp_region_lit ?_
            refine s_val hK rfl rfl rfl (r_fa fa92_5 hK rfl rfl) fun a hK => ?_
            refine s_val hK rfl rfl rfl (r_ldb t13 hM 1 hb4 5 hK rfl rfl rfl rfl rfl) fun a hK => ?_
            refine s_val hK rfl rfl rfl (r_fa fa92_5 hK rfl rfl) fun a hK => ?_
            refine s_val hK rfl rfl rfl (r_ldb t13 hM 0 hb7 5 hK rfl rfl rfl rfl rfl) fun a hK => ?_
            refine s1 hK rfl rfl rfl rfl fun a hK => ?_
            refine wpList_nil (nm_then ?_)
            refine c_cond (b := a1.fGram != b2.fGram) hK rfl (fun hb14 => ?_) (fun hb14 => ?_)
            · have h := bif_t hb14 h
              refine wp_seq ?_
              refine wp_region_lit ?_
              refine s1 hK rfl rfl rfl rfl fun a hK => ?_
              refine wpList_nil (nm_then ?_)
              refine wp_ret (rt_then ?_)
              have h := Option.some.inj h
              subst h
              exact finR1 hK rfl (RV.tmp hK rfl) ⟨rfl, hM.ext⟩
            · have h := bif_f hb14 h
              refine wp_skip (nm_then ?_)
              refine wp_seq ?_
              refine wp_seq ?_
              refine wp_region_lit ?_
              refine s_val hK rfl rfl rfl (r_fa fa92_6 hK rfl rfl) fun a hK => ?_
              refine s_val hK rfl rfl rfl (r_ldb t13 hM 1 hb4 6 hK rfl rfl rfl rfl rfl) fun a hK => ?_
              refine s_val hK rfl rfl rfl (r_fa fa92_6 hK rfl rfl) fun a hK => ?_
              refine s_val hK rfl rfl rfl (r_ldb t13 hM 0 hb7 6 hK rfl rfl rfl rfl rfl) fun a hK => ?_
              refine s1 hK rfl rfl rfl rfl fun a hK => ?_
              refine wpList_nil (nm_then ?_)
              refine c_cond (b := a1.fCost != b2.fCost) hK rfl (fun hb15 => ?_) (fun hb15 => ?_)
              · have h := bif_t hb15 h
                refine wp_seq ?_
                refine wp_region_lit ?_
                refine s1 hK rfl rfl rfl rfl fun a hK => ?_
                refine wpList_nil (nm_then ?_)
                refine wp_ret (rt_then ?_)
                have h := Option.some.inj h
                subst h
                exact finR1 hK rfl (RV.tmp hK rfl) ⟨rfl, hM.ext⟩
              · have h := bif_f hb15 h
                refine wp_skip (nm_then ?_)
                refine wp_seq ?_
                refine wp_region_lit ?_
                refine s1 hK rfl rfl rfl rfl fun a hK => ?_
                refine wpList_nil (nm_then ?_)
                refine wp_ret ?_
                have h := Option.some.inj h
                subst h
                exact finR1 hK rfl (RV.tmp hK rfl) ⟨rfl, hM.ext⟩

theorem c_laws_eqTypeS (fu : Nat) {w0 : World} (a1 : List Typ) (b5 : List Typ) {v2 : Value} {F3 : List Nat} (hp4 : rd w0 F3 [v2] a1) {v6 : Value} {F7 : List Nat} (hp8 : rd w0 F7 [v6] b5) {r : Bool}
    (h : d_laws_eqTypeS fu a1 b5 = some r) :
    Calls Tryz.prog 81 #[v2, v6] w0 fun e w => e = .returned (.bool (r)) ∧ Ext [] w0 w := by
  refine enter (vs := [_, _]) Tryz.func81 rfl Tryz.ntmps81 rfl fun a hK => ?_
  have hM := St.start w0
  unfold d_laws_eqTypeS at h
  refine wp_seq ?_
  refine wp_region_lit ?_
  refine s1 hK rfl rfl rfl rfl fun a hK => ?_
  refine wpList_nil (nm_then ?_)
  refine wp_seq ?_
  refine wp_seq ?_
  refine wp_region_lit ?_
  refine s1 hK rfl rfl rfl rfl fun a hK => ?_
  refine s_val hK rfl rfl rfl (r_len (α := Typ) hp4 hK Tryz.underlying37 rfl rfl) fun a hK => ?_
  refine s1 hK rfl rfl rfl rfl fun a hK => ?_
  refine s_val hK rfl rfl rfl (r_len (α := Typ) hp8 hK Tryz.underlying37 rfl rfl) fun a hK => ?_
  refine s1 hK rfl rfl rfl rfl fun a hK => ?_
  refine wpList_nil (nm_then ?_)
  refine c_cond (b := ((a1.length : Int)) != ((b5.length : Int))) hK rfl (fun hb9 => ?_) (fun hb9 => ?_)
  · have h := bif_t hb9 h
    refine wp_seq ?_
    refine wp_region_lit ?_
    refine s1 hK rfl rfl rfl rfl fun a hK => ?_
    refine wpList_nil (nm_then ?_)
    refine wp_ret (rt_then ?_)
    have h := Option.some.inj h
    subst h
    exact finR1 hK rfl (RV.tmp hK rfl) ⟨rfl, hM.ext⟩
  · have h := bif_f hb9 h
    refine wp_skip (nm_then ?_)
    refine wp_seq ?_
    refine wp_seq ?_
    refine wp_region_lit ?_
    refine s1 hK rfl rfl rfl rfl fun a hK => ?_
    refine wpList_nil (nm_then ?_)
    refine wp_block ?_
    refine c_loop (fun n a w => ∃ (i36 : Int), K 27 [(0, v2), (1, v6), (5, .int .i64 (i36))] a ∧ St [] w0 w [] ∧ d_laws_eqTypeS_L1 fu a1 b5 n i36 = some r) ?_ ?_ fu _ _ ?_
    · rintro a w ⟨_, _, _, h⟩
      cases (show none = some _ from h)
    · rintro m37 a w35 ⟨i36, hK, hM, h⟩
      rw [d_laws_eqTypeS_L1_s] at h
      unfold d_laws_eqTypeS_L1_B at h
      refine wp_seq ?_
      refine wp_seq ?_
      refine wp_region_lit ?_
      iterate 2 (refine s1 hK rfl rfl rfl rfl fun a hK => ?_)
      refine s_val hK rfl rfl rfl (r_len (α := Typ) hp4 hK Tryz.underlying37 rfl rfl) fun a hK => ?_
      refine s1 hK rfl rfl rfl rfl fun a hK => ?_
      refine wpList_nil (nm_then ?_)
      refine c_cond (b := decide (i36 < ((a1.length : Int)))) hK rfl (fun hb38 => ?_) (fun hb38 => ?_)
      · have h := bif_t hb38 h
        refine wp_skip (nm_then ?_)
        refine wp_seq ?_
        refine wp_block ?_
        refine wp_seq ?_
        refine d_go [] mixo hM rfl fun w39 hMd => ?_
        have hM := hMd
        have hS := Ext.refl ([] : List Nat) w39
        refine d_pure hK 0 rfl (by kernel_rfl) (by kernel_rfl) (by kernel_rfl) rfl rfl rfl hS (fun _ _ _ h => h) rfl fun a hK => ?_
        refine d_pure hK 1 rfl (by kernel_rfl) (by kernel_rfl) (by kernel_rfl) rfl rfl rfl hS (fun _ _ _ h => h) rfl fun a hK => ?_
        obtain ⟨x40, hx41, h⟩ := obind_some h
        refine d_take hK 2 rfl (by kernel_rfl) (by kernel_rfl) (by kernel_rfl) rfl rfl rfl hS (fun _ _ _ h => h) (fun w hS => r_ixa hp4 hx41 hK ts37 rfl rfl rfl) fun a hK => ?_
        refine d_take hK 3 rfl (by kernel_rfl) (by kernel_rfl) (by kernel_rfl) rfl rfl rfl hS (fun _ _ _ h => h) (fun w hS => r_lde hp4 ((hMd.step hS).a00 (Enc.rd_lt hp4)) hx41 ta92 hK rfl rfl) fun a hK => ?_
        refine d_pure hK 4 rfl (by kernel_rfl) (by kernel_rfl) (by kernel_rfl) rfl rfl rfl hS (fun _ _ _ h => h) rfl fun a hK => ?_
        refine d_pure hK 5 rfl (by kernel_rfl) (by kernel_rfl) (by kernel_rfl) rfl rfl rfl hS (fun _ _ _ h => h) rfl fun a hK => ?_
        obtain ⟨x42, hx43, h⟩ := obind_some h
        refine d_take hK 6 rfl (by kernel_rfl) (by kernel_rfl) (by kernel_rfl) rfl rfl rfl hS (fun _ _ _ h => h) (fun w hS => r_ixa hp8 hx43 hK ts37 rfl rfl rfl) fun a hK => ?_
        refine d_take hK 7 rfl (by kernel_rfl) (by kernel_rfl) (by kernel_rfl) rfl rfl rfl hS (fun _ _ _ h => h) (fun w hS => r_lde hp8 ((hMd.step hS).a00 (Enc.rd_lt hp8)) hx43 ta92 hK rfl rfl) fun a hK => ?_
        refine d_one 8 (by kernel_rfl) rfl ?_
        obtain ⟨x44, hx45, h⟩ := obind_some h
        refine s_call hK Tryz.call145 rfl rfl rfl rfl rfl (c_laws_eqType fu (x40 : Typ) (x42 : Typ)  hx45) fun e46 w47 hR => ?_
        obtain ⟨rfl, hE⟩ := hR
        refine ⟨_, rfl, fun a hK => ?_⟩
        have hM := hM.step hE
        have hS := hS.trans hE (by simp)
        refine wpList_nil ⟨hS, ?_⟩
        refine d_pure hK 9 rfl (by kernel_rfl) (by kernel_rfl) (by kernel_rfl) rfl rfl rfl hS (fun _ _ _ h => h) rfl fun a hK => ?_
        refine d_done (by kernel_rfl) ?_
        refine (nm_then ?_)
        refine c_cond (b := !x44) hK rfl (fun hb48 => ?_) (fun hb48 => ?_)
        · have h := bif_t hb48 h
          refine wp_seq ?_
          refine wp_region_lit ?_
          refine s1 hK rfl rfl rfl rfl fun a hK => ?_
          refine wpList_nil (nm_then ?_)
          refine wp_ret (rt_block (rt_then (rt_then (rt_block (rt_then ?_)))))
          have h := Option.some.inj h
          subst h
          exact finR1 hK rfl (RV.tmp hK rfl) ⟨rfl, hM.ext⟩
        · have h := bif_f hb48 h
          refine wp_skip (nm_block (nm_then ?_))
          refine wp_region_lit ?_
          iterate 3 (refine s1 hK rfl rfl rfl rfl fun a hK => ?_)
          refine wpList_nil (nm_then ?_)
          exact ⟨w64 (i36 + 1), hK.keep [0, 1, 5] rfl, hM.sel [] rfl (by decide), h⟩
      · have h := bif_f hb38 h
        refine wp_exit (ex_then (ex_then (ex_same (nm_then ?_))))
        refine wp_seq ?_
        refine wp_region_lit ?_
        refine s1 hK rfl rfl rfl rfl fun a hK => ?_
        refine wpList_nil (nm_then ?_)
        refine wp_ret ?_
        have h := Option.some.inj h
        subst h
        exact finR1 hK rfl (RV.tmp hK rfl) ⟨rfl, hM.ext⟩
    · exact ⟨0, hK.keep [0, 1, 5] rfl, hM.sel [] rfl (by decide), h⟩

theorem c_laws_eqItem (fu : Nat) {w0 : World} (a1 : Item) (b2 : Item)  {r : Bool}
    (h : d_laws_eqItem fu a1 b2 = some r) :
    Calls Tryz.prog 146 #[.agg (Flat.e (a1)).toArray, .agg (Flat.e (b2)).toArray] w0 fun e w => e = .returned (.bool (r)) ∧ Ext [] w0 w := by
  refine enter (vs := [_, _]) Tryz.func146 rfl Tryz.ntmps146 rfl fun a hK => ?_
  have hM := St.start w0
  unfold d_laws_eqItem at h
  refine wp_seq ?_
  refine wp_region_lit ?_
  refine s_box (cs := [.int .i64 (a1.fId), .int .i64 (a1.fW), .int .i64 (a1.fH), .int .i64 (a1.fD), .int .i64 (a1.fGram), .int .i64 (a1.fClass), .int .i64 (a1.fCount)]) hM hK rfl rfl rfl rfl rfl rfl fun b3 w5 a hK hM hE hb4 => ?_
  refine s_box (cs := [.int .i64 (b2.fId), .int .i64 (b2.fW), .int .i64 (b2.fH), .int .i64 (b2.fD), .int .i64 (b2.fGram), .int .i64 (b2.fClass), .int .i64 (b2.fCount)]) hM hK rfl rfl rfl rfl rfl rfl fun b6 w8 a hK hM hE hb7 => ?_
  refine s1 hK rfl rfl rfl rfl fun a hK => ?_
  refine wpList_nil (nm_then ?_)
  refine wp_seq ?_
  refine wp_seq ?_
  refine wp_region_lit ?_
  refine s_val hK rfl rfl rfl (r_fa fa120_0 hK rfl rfl) fun a hK => ?_
  refine s_val hK rfl rfl rfl (r_ldb t13 hM 1 hb4 0 hK rfl rfl rfl rfl rfl) fun a hK => ?_
  refine s_val hK rfl rfl rfl (r_fa fa120_0 hK rfl rfl) fun a hK => ?_
  refine s_val hK rfl rfl rfl (r_ldb t13 hM 0 hb7 0 hK rfl rfl rfl rfl rfl) fun a hK => ?_
  refine s1 hK rfl rfl rfl rfl fun a hK => ?_
  refine wpList_nil (nm_then ?_)
  refine c_cond (b := a1.fId != b2.fId) hK rfl (fun hb9 => ?_) (fun hb9 => ?_)
  · have h := bif_t hb9 h
    refine wp_seq ?_
    refine wp_region_lit ?_
    refine s1 hK rfl rfl rfl rfl fun a hK => ?_
    refine wpList_nil (nm_then ?_)
    refine wp_ret (rt_then ?_)
    have h := Option.some.inj h
    subst h
    exact finR1 hK rfl (RV.tmp hK rfl) ⟨rfl, hM.ext⟩
  · have h := bif_f hb9 h
    refine wp_skip (nm_then ?_)
    refine wp_seq ?_
    refine wp_seq ?_
    refine wp_region_lit ?_
    refine s_val hK rfl rfl rfl (r_fa fa120_1 hK rfl rfl) fun a hK => ?_
    refine s_val hK rfl rfl rfl (r_ldb t13 hM 1 hb4 1 hK rfl rfl rfl rfl rfl) fun a hK => ?_
    refine s_val hK rfl rfl rfl (r_fa fa120_1 hK rfl rfl) fun a hK => ?_
    refine s_val hK rfl rfl rfl (r_ldb t13 hM 0 hb7 1 hK rfl rfl rfl rfl rfl) fun a hK => ?_
    refine s1 hK rfl rfl rfl rfl fun a hK => ?_
    refine wpList_nil (nm_then ?_)
    refine c_cond (b := a1.fW != b2.fW) hK rfl (fun hb10 => ?_) (fun hb10 => ?_)
    · have h := bif_t hb10 h
      refine wp_seq ?_
      refine wp_region_lit ?_
      refine s1 hK rfl rfl rfl rfl fun a hK => ?_
      refine wpList_nil (nm_then ?_)
      refine wp_ret (rt_then ?_)
      have h := Option.some.inj h
      subst h
      exact finR1 hK rfl (RV.tmp hK rfl) ⟨rfl, hM.ext⟩
    · have h := bif_f hb10 h
      refine wp_skip (nm_then ?_)
      refine wp_seq ?_
      refine wp_seq ?_
      refine wp_region_lit ?_
      refine s_val hK rfl rfl rfl (r_fa fa120_2 hK rfl rfl) fun a hK => ?_
      refine s_val hK rfl rfl rfl (r_ldb t13 hM 1 hb4 2 hK rfl rfl rfl rfl rfl) fun a hK => ?_
      refine s_val hK rfl rfl rfl (r_fa fa120_2 hK rfl rfl) fun a hK => ?_
      refine s_val hK rfl rfl rfl (r_ldb t13 hM 0 hb7 2 hK rfl rfl rfl rfl rfl) fun a hK => ?_
      refine s1 hK rfl rfl rfl rfl fun a hK => ?_
      refine wpList_nil (nm_then ?_)
      refine c_cond (b := a1.fH != b2.fH) hK rfl (fun hb11 => ?_) (fun hb11 => ?_)
      · have h := bif_t hb11 h
        refine wp_seq ?_
        refine wp_region_lit ?_
        refine s1 hK rfl rfl rfl rfl fun a hK => ?_
        refine wpList_nil (nm_then ?_)
        refine wp_ret (rt_then ?_)
        have h := Option.some.inj h
        subst h
        exact finR1 hK rfl (RV.tmp hK rfl) ⟨rfl, hM.ext⟩
      · have h := bif_f hb11 h
        refine wp_skip (nm_then ?_)
        refine wp_seq ?_
        refine wp_seq ?_
        refine wp_region_lit ?_
        refine s_val hK rfl rfl rfl (r_fa fa120_3 hK rfl rfl) fun a hK => ?_
        refine s_val hK rfl rfl rfl (r_ldb t13 hM 1 hb4 3 hK rfl rfl rfl rfl rfl) fun a hK => ?_
        refine s_val hK rfl rfl rfl (r_fa fa120_3 hK rfl rfl) fun a hK => ?_
        refine s_val hK rfl rfl rfl (r_ldb t13 hM 0 hb7 3 hK rfl rfl rfl rfl rfl) fun a hK => ?_
        refine s1 hK rfl rfl rfl rfl fun a hK => ?_
        refine wpList_nil (nm_then ?_)
        refine c_cond (b := a1.fD != b2.fD) hK rfl (fun hb12 => ?_) (fun hb12 => ?_)
        · have h := bif_t hb12 h
          refine wp_seq ?_
          refine wp_region_lit ?_
          refine s1 hK rfl rfl rfl rfl fun a hK => ?_
          refine wpList_nil (nm_then ?_)
          refine wp_ret (rt_then ?_)
          have h := Option.some.inj h
          subst h
          exact finR1 hK rfl (RV.tmp hK rfl) ⟨rfl, hM.ext⟩
        · have h := bif_f hb12 h
          refine wp_skip (nm_then ?_)
          refine wp_seq ?_
          refine wp_seq ?_
          refine wp_region_lit ?_
          refine s_val hK rfl rfl rfl (r_fa fa120_4 hK rfl rfl) fun a hK => ?_
          refine s_val hK rfl rfl rfl (r_ldb t13 hM 1 hb4 4 hK rfl rfl rfl rfl rfl) fun a hK => ?_
          refine s_val hK rfl rfl rfl (r_fa fa120_4 hK rfl rfl) fun a hK => ?_
          refine s_val hK rfl rfl rfl (r_ldb t13 hM 0 hb7 4 hK rfl rfl rfl rfl rfl) fun a hK => ?_
          refine s1 hK rfl rfl rfl rfl fun a hK => ?_
          have hK := hK.keep [2, 3, 29] rfl
          refine wpList_nil (nm_then ?_)
          refine c_cond (b := a1.fGram != b2.fGram) hK rfl (fun hb13 => ?_) (fun hb13 => ?_)
          · have h := bif_t hb13 h
            refine wp_seq ?_
            refine wp_region_lit ?_
            refine s1 hK rfl rfl rfl rfl fun a hK => ?_
            refine wpList_nil (nm_then ?_)
            refine wp_ret (rt_then ?_)
            have h := Option.some.inj h
            subst h
            exact finR1 hK rfl (RV.tmp hK rfl) ⟨rfl, hM.ext⟩
          · have h := bif_f hb13 h
            refine wp_skip (nm_then ?_)
            refine wp_seq ?_
            refine wp_seq ?_
            refine wp_region_lit ?_
            refine s_val hK rfl rfl rfl (r_fa fa120_5 hK rfl rfl) fun a hK => ?_
            refine s_val hK rfl rfl rfl (r_ldb t13 hM 1 hb4 5 hK rfl rfl rfl rfl rfl) fun a hK => ?_
            refine s_val hK rfl rfl rfl (r_fa fa120_5 hK rfl rfl) fun a hK => ?_
            refine s_val hK rfl rfl rfl (r_ldb t13 hM 0 hb7 5 hK rfl rfl rfl rfl rfl) fun a hK => ?_
            refine s1 hK rfl rfl rfl rfl fun a hK => ?_
            refine wpList_nil (nm_then ?_)
            refine c_cond (b := a1.fClass != b2.fClass) hK rfl (fun hb14 => ?_) (fun hb14 => ?_)
            · have h := bif_t hb14 h
              refine wp_seq ?_
              refine wp_region_lit ?_
              refine s1 hK rfl rfl rfl rfl fun a hK => ?_
              refine wpList_nil (nm_then ?_)
              refine wp_ret (rt_then ?_)
              have h := Option.some.inj h
              subst h
              exact finR1 hK rfl (RV.tmp hK rfl) ⟨rfl, hM.ext⟩
            · have h := bif_f hb14 h
              refine wp_skip (nm_then ?_)
              refine wp_seq ?_
              refine wp_seq ?_
              refine wp_region_lit ?_
              refine s_val hK rfl rfl rfl (r_fa fa120_6 hK rfl rfl) fun a hK => ?_
              refine s_val hK rfl rfl rfl (r_ldb t13 hM 1 hb4 6 hK rfl rfl rfl rfl rfl) fun a hK => ?_
              refine s_val hK rfl rfl rfl (r_fa fa120_6 hK rfl rfl) fun a hK => ?_
              refine s_val hK rfl rfl rfl (r_ldb t13 hM 0 hb7 6 hK rfl rfl rfl rfl rfl) fun a hK => ?_
              refine s1 hK rfl rfl rfl rfl fun a hK => ?_
              refine wpList_nil (nm_then ?_)
              refine c_cond (b := a1.fCount != b2.fCount) hK rfl (fun hb15 => ?_) (fun hb15 => ?_)
              · have h := bif_t hb15 h
                refine wp_seq ?_
                refine wp_region_lit ?_
                refine s1 hK rfl rfl rfl rfl fun a hK => ?_
                refine wpList_nil (nm_then ?_)
                refine wp_ret (rt_then ?_)
                have h := Option.some.inj h
                subst h
                exact finR1 hK rfl (RV.tmp hK rfl) ⟨rfl, hM.ext⟩
              · have h := bif_f hb15 h
                refine wp_skip (nm_then ?_)
                refine wp_seq ?_
                refine wp_region_lit ?_
                refine s1 hK rfl rfl rfl rfl fun a hK => ?_
                refine wpList_nil (nm_then ?_)
                refine wp_ret ?_
                have h := Option.some.inj h
                subst h
                exact finR1 hK rfl (RV.tmp hK rfl) ⟨rfl, hM.ext⟩

theorem c_laws_eqItemS (fu : Nat) {w0 : World} (a1 : List Item) (b5 : List Item) {v2 : Value} {F3 : List Nat} (hp4 : rd w0 F3 [v2] a1) {v6 : Value} {F7 : List Nat} (hp8 : rd w0 F7 [v6] b5) {r : Bool}
    (h : d_laws_eqItemS fu a1 b5 = some r) :
    Calls Tryz.prog 82 #[v2, v6] w0 fun e w => e = .returned (.bool (r)) ∧ Ext [] w0 w := by
  refine enter (vs := [_, _]) Tryz.func82 rfl Tryz.ntmps82 rfl fun a hK => ?_
  have hM := St.start w0
  unfold d_laws_eqItemS at h
  refine wp_seq ?_
  refine wp_region_lit ?_
  refine s1 hK rfl rfl rfl rfl fun a hK => ?_
  refine wpList_nil (nm_then ?_)
  refine wp_seq ?_
  refine wp_seq ?_
  refine wp_region_lit ?_
  refine s1 hK rfl rfl rfl rfl fun a hK => ?_
  refine s_val hK rfl rfl rfl (r_len (α := Item) hp4 hK Tryz.underlying38 rfl rfl) fun a hK => ?_
  refine s1 hK rfl rfl rfl rfl fun a hK => ?_
  refine s_val hK rfl rfl rfl (r_len (α := Item) hp8 hK Tryz.underlying38 rfl rfl) fun a hK => ?_
  refine s1 hK rfl rfl rfl rfl fun a hK => ?_
  refine wpList_nil (nm_then ?_)
  refine c_cond (b := ((a1.length : Int)) != ((b5.length : Int))) hK rfl (fun hb9 => ?_) (fun hb9 => ?_)
  · have h := bif_t hb9 h
    refine wp_seq ?_
    refine wp_region_lit ?_
    refine s1 hK rfl rfl rfl rfl fun a hK => ?_
    refine wpList_nil (nm_then ?_)
    refine wp_ret (rt_then ?_)
    have h := Option.some.inj h
    subst h
    exact finR1 hK rfl (RV.tmp hK rfl) ⟨rfl, hM.ext⟩
  · have h := bif_f hb9 h
    refine wp_skip (nm_then ?_)
    refine wp_seq ?_
    refine wp_seq ?_
    refine wp_region_lit ?_
    refine s1 hK rfl rfl rfl rfl fun a hK => ?_
    refine wpList_nil (nm_then ?_)
    refine wp_block ?_
    refine c_loop (fun n a w => ∃ (i36 : Int), K 27 [(0, v2), (1, v6), (5, .int .i64 (i36))] a ∧ St [] w0 w [] ∧ d_laws_eqItemS_L1 fu a1 b5 n i36 = some r) ?_ ?_ fu _ _ ?_
    · rintro a w ⟨_, _, _, h⟩
      cases (show none = some _ from h)
    · rintro m37 a w35 ⟨i36, hK, hM, h⟩
      rw [d_laws_eqItemS_L1_s] at h
      unfold d_laws_eqItemS_L1_B at h
      refine wp_seq ?_
      refine wp_seq ?_
      refine wp_region_lit ?_
      iterate 2 (refine s1 hK rfl rfl rfl rfl fun a hK => ?_)
      refine s_val hK rfl rfl rfl (r_len (α := Item) hp4 hK Tryz.underlying38 rfl rfl) fun a hK => ?_
      refine s1 hK rfl rfl rfl rfl fun a hK => ?_
      refine wpList_nil (nm_then ?_)
      refine c_cond (b := decide (i36 < ((a1.length : Int)))) hK rfl (fun hb38 => ?_) (fun hb38 => ?_)
      · have h := bif_t hb38 h
        refine wp_skip (nm_then ?_)
        refine wp_seq ?_
        refine wp_block ?_
        refine wp_seq ?_
        refine d_go [] mixo hM rfl fun w39 hMd => ?_
        have hM := hMd
        have hS := Ext.refl ([] : List Nat) w39
        refine d_pure hK 0 rfl (by kernel_rfl) (by kernel_rfl) (by kernel_rfl) rfl rfl rfl hS (fun _ _ _ h => h) rfl fun a hK => ?_
        refine d_pure hK 1 rfl (by kernel_rfl) (by kernel_rfl) (by kernel_rfl) rfl rfl rfl hS (fun _ _ _ h => h) rfl fun a hK => ?_
        obtain ⟨x40, hx41, h⟩ := obind_some h
        refine d_take hK 2 rfl (by kernel_rfl) (by kernel_rfl) (by kernel_rfl) rfl rfl rfl hS (fun _ _ _ h => h) (fun w hS => r_ixa hp4 hx41 hK ts38 rfl rfl rfl) fun a hK => ?_
        refine d_take hK 3 rfl (by kernel_rfl) (by kernel_rfl) (by kernel_rfl) rfl rfl rfl hS (fun _ _ _ h => h) (fun w hS => r_lde hp4 ((hMd.step hS).a00 (Enc.rd_lt hp4)) hx41 ta120 hK rfl rfl) fun a hK => ?_
        refine d_pure hK 4 rfl (by kernel_rfl) (by kernel_rfl) (by kernel_rfl) rfl rfl rfl hS (fun _ _ _ h => h) rfl fun a hK => ?_
        refine d_pure hK 5 rfl (by kernel_rfl) (by kernel_rfl) (by kernel_rfl) rfl rfl rfl hS (fun _ _ _ h => h) rfl fun a hK => ?_
        obtain ⟨x42, hx43, h⟩ := obind_some h
        refine d_take hK 6 rfl (by kernel_rfl) (by kernel_rfl) (by kernel_rfl) rfl rfl rfl hS (fun _ _ _ h => h) (fun w hS => r_ixa hp8 hx43 hK ts38 rfl rfl rfl) fun a hK => ?_
        refine d_take hK 7 rfl (by kernel_rfl) (by kernel_rfl) (by kernel_rfl) rfl rfl rfl hS (fun _ _ _ h => h) (fun w hS => r_lde hp8 ((hMd.step hS).a00 (Enc.rd_lt hp8)) hx43 ta120 hK rfl rfl) fun a hK => ?_
        refine d_one 8 (by kernel_rfl) rfl ?_
        obtain ⟨x44, hx45, h⟩ := obind_some h
        refine s_call hK Tryz.call146 rfl rfl rfl rfl rfl (c_laws_eqItem fu (x40 : Item) (x42 : Item)  hx45) fun e46 w47 hR => ?_
        obtain ⟨rfl, hE⟩ := hR
        refine ⟨_, rfl, fun a hK => ?_⟩
        have hM := hM.step hE
        have hS := hS.trans hE (by simp)
        refine wpList_nil ⟨hS, ?_⟩
        refine d_pure hK 9 rfl (by kernel_rfl) (by kernel_rfl) (by kernel_rfl) rfl rfl rfl hS (fun _ _ _ h => h) rfl fun a hK => ?_
        refine d_done (by kernel_rfl) ?_
        refine (nm_then ?_)
        refine c_cond (b := !x44) hK rfl (fun hb48 => ?_) (fun hb48 => ?_)
        · have h := bif_t hb48 h
          refine wp_seq ?_
          refine wp_region_lit ?_
          refine s1 hK rfl rfl rfl rfl fun a hK => ?_
          refine wpList_nil (nm_then ?_)
          refine wp_ret (rt_block (rt_then (rt_then (rt_block (rt_then ?_)))))
          have h := Option.some.inj h
          subst h
          exact finR1 hK rfl (RV.tmp hK rfl) ⟨rfl, hM.ext⟩
        · have h := bif_f hb48 h
          refine wp_skip (nm_block (nm_then ?_))
          refine wp_region_lit ?_
          iterate 3 (refine s1 hK rfl rfl rfl rfl fun a hK => ?_)
          refine wpList_nil (nm_then ?_)
          exact ⟨w64 (i36 + 1), hK.keep [0, 1, 5] rfl, hM.sel [] rfl (by decide), h⟩
      · have h := bif_f hb38 h
        refine wp_exit (ex_then (ex_then (ex_same (nm_then ?_))))
        refine wp_seq ?_
        refine wp_region_lit ?_
        refine s1 hK rfl rfl rfl rfl fun a hK => ?_
        refine wpList_nil (nm_then ?_)
        refine wp_ret ?_
        have h := Option.some.inj h
        subst h
        exact finR1 hK rfl (RV.tmp hK rfl) ⟨rfl, hM.ext⟩
    · exact ⟨0, hK.keep [0, 1, 5] rfl, hM.sel [] rfl (by decide), h⟩

theorem c_laws_eqRequest (fu : Nat) {w0 : World} (a1 : Request) (b5 : Request) {cs2 : List Value} {F3 : List Nat} (hp4 : rd w0 F3 cs2 a1) {cs6 : List Value} {F7 : List Nat} (hp8 : rd w0 F7 cs6 b5) {r : Bool}
    (h : d_laws_eqRequest fu a1 b5 = some r) :
    Calls Tryz.prog 21 #[.agg cs2.toArray, .agg cs6.toArray] w0 fun e w => e = .returned (.bool (r)) ∧ Ext [] w0 w := by
  refine enter (vs := [_, _]) Tryz.func21 rfl Tryz.ntmps21 rfl fun a hK => ?_
  have hM := St.start w0
  obtain ⟨v9, F10, v11, F12, v13, F14, rfl, rfl, hf15, hf16, hf17⟩ := hp4
  obtain ⟨v18, F19, v20, F21, v22, F23, rfl, rfl, hf24, hf25, hf26⟩ := hp8
  unfold d_laws_eqRequest at h
  refine wp_seq ?_
  refine wp_region_lit ?_
  refine s_box (cs := [.int .i64 (a1.fWay), .int .i64 (a1.fPallet.fW), .int .i64 (a1.fPallet.fD), .int .i64 (a1.fPallet.fH), .int .i64 (a1.fPallet.fGram), .int .i64 (a1.fClasses), v9, v11, .int .i64 (a1.fMaster), v13]) hM hK rfl rfl rfl rfl rfl rfl fun b27 w29 a hK hM hE hb28 => ?_
  refine s_box (cs := [.int .i64 (b5.fWay), .int .i64 (b5.fPallet.fW), .int .i64 (b5.fPallet.fD), .int .i64 (b5.fPallet.fH), .int .i64 (b5.fPallet.fGram), .int .i64 (b5.fClasses), v18, v20, .int .i64 (b5.fMaster), v22]) hM hK rfl rfl rfl rfl rfl rfl fun b30 w32 a hK hM hE hb31 => ?_
  refine s1 hK rfl rfl rfl rfl fun a hK => ?_
  refine wpList_nil (nm_then ?_)
  refine wp_seq ?_
  refine wp_seq ?_
  refine wp_region_lit ?_
  refine s_val hK rfl rfl rfl (r_fa fa40_0 hK rfl rfl) fun a hK => ?_
  refine s_val hK rfl rfl rfl (r_ldb t13 hM 1 hb28 0 hK rfl rfl rfl rfl rfl) fun a hK => ?_
  refine s_val hK rfl rfl rfl (r_fa fa40_0 hK rfl rfl) fun a hK => ?_
  refine s_val hK rfl rfl rfl (r_ldb t13 hM 0 hb31 0 hK rfl rfl rfl rfl rfl) fun a hK => ?_
  refine s1 hK rfl rfl rfl rfl fun a hK => ?_
  refine wpList_nil (nm_then ?_)
  refine c_cond (b := a1.fWay != b5.fWay) hK rfl (fun hb33 => ?_) (fun hb33 => ?_)
  · have h := bif_t hb33 h
    refine wp_seq ?_
    refine wp_region_lit ?_
    refine s1 hK rfl rfl rfl rfl fun a hK => ?_
    refine wpList_nil (nm_then ?_)
    refine wp_ret (rt_then ?_)
    have h := Option.some.inj h
    subst h
    exact finR1 hK rfl (RV.tmp hK rfl) ⟨rfl, hM.ext⟩
  · have h := bif_f hb33 h
    refine wp_skip (nm_then ?_)
    refine wp_seq ?_
    refine wp_seq ?_
    refine wp_region_lit ?_
    refine s_val hK rfl rfl rfl (r_fa fa40_1 hK rfl rfl) fun a hK => ?_
    refine s_val hK rfl rfl rfl (r_ldB ta35 hM 1 hb28 1 hK rfl rfl rfl rfl rfl rfl) fun a hK => ?_
    refine s_val hK rfl rfl rfl (r_fa fa40_1 hK rfl rfl) fun a hK => ?_
    refine s_val hK rfl rfl rfl (r_ldB ta35 hM 0 hb31 1 hK rfl rfl rfl rfl rfl rfl) fun a hK => ?_
    obtain ⟨x34, hx35, h⟩ := obind_some h
    refine s_call hK Tryz.call79 rfl rfl rfl rfl rfl (c_laws_eqPallet fu (a1.fPallet : Pallet) (b5.fPallet : Pallet)  hx35) fun e36 w37 hR => ?_
    obtain ⟨rfl, hE⟩ := hR
    refine ⟨_, rfl, fun a hK => ?_⟩
    have hM := hM.step hE
    refine s1 hK rfl rfl rfl rfl fun a hK => ?_
    refine wpList_nil (nm_then ?_)
    refine c_cond (b := !x34) hK rfl (fun hb38 => ?_) (fun hb38 => ?_)
    · have h := bif_t hb38 h
      refine wp_seq ?_
      refine wp_region_lit ?_
      refine s1 hK rfl rfl rfl rfl fun a hK => ?_
      refine wpList_nil (nm_then ?_)
      refine wp_ret (rt_then ?_)
      have h := Option.some.inj h
      subst h
      exact finR1 hK rfl (RV.tmp hK rfl) ⟨rfl, hM.ext⟩
    · have h := bif_f hb38 h
      refine wp_skip (nm_then ?_)
      refine wp_seq ?_
      refine wp_seq ?_
      refine wp_region_lit ?_
      refine s_val hK rfl rfl rfl (r_fa fa40_2 hK rfl rfl) fun a hK => ?_
      refine s_val hK rfl rfl rfl (r_ldb t13 hM 1 hb28 5 hK rfl rfl rfl rfl rfl) fun a hK => ?_
      refine s_val hK rfl rfl rfl (r_fa fa40_2 hK rfl rfl) fun a hK => ?_
      refine s_val hK rfl rfl rfl (r_ldb t13 hM 0 hb31 5 hK rfl rfl rfl rfl rfl) fun a hK => ?_
      refine s1 hK rfl rfl rfl rfl fun a hK => ?_
      refine wpList_nil (nm_then ?_)
      refine c_cond (b := a1.fClasses != b5.fClasses) hK rfl (fun hb39 => ?_) (fun hb39 => ?_)
      · have h := bif_t hb39 h
        refine wp_seq ?_
        refine wp_region_lit ?_
        refine s1 hK rfl rfl rfl rfl fun a hK => ?_
        refine wpList_nil (nm_then ?_)
        refine wp_ret (rt_then ?_)
        have h := Option.some.inj h
        subst h
        exact finR1 hK rfl (RV.tmp hK rfl) ⟨rfl, hM.ext⟩
      · have h := bif_f hb39 h
        refine wp_skip (nm_then ?_)
        refine wp_seq ?_
        refine wp_seq ?_
        refine wp_region_lit ?_
        refine s_val hK rfl rfl rfl (r_fa fa40_3 hK rfl rfl) fun a hK => ?_
        refine s_val hK rfl rfl rfl (r_ldb t136 hM 1 hb28 6 hK rfl rfl rfl rfl rfl) fun a hK => ?_
        refine s_val hK rfl rfl rfl (r_fa fa40_3 hK rfl rfl) fun a hK => ?_
        refine s_val hK rfl rfl rfl (r_ldb t136 hM 0 hb31 6 hK rfl rfl rfl rfl rfl) fun a hK => ?_
        obtain ⟨x40, hx41, h⟩ := obind_some h
        refine s_call hK Tryz.call80 rfl rfl rfl rfl rfl (c_laws_eqPairS fu _ _ (Enc.rd_agr hf15 (hM.a00 (Enc.rd_lt hf15))) (Enc.rd_agr hf24 (hM.a00 (Enc.rd_lt hf24))) hx41) fun e42 w43 hR => ?_
        obtain ⟨rfl, hE⟩ := hR
        refine ⟨_, rfl, fun a hK => ?_⟩
        have hM := hM.step hE
        refine s1 hK rfl rfl rfl rfl fun a hK => ?_
        have hK := hK.keep [2, 3, 26] rfl
        refine wpList_nil (nm_then ?_)
        refine c_cond (b := !x40) hK rfl (fun hb44 => ?_) (fun hb44 => ?_)
        · have h := bif_t hb44 h
          refine wp_seq ?_
          refine wp_region_lit ?_
          refine s1 hK rfl rfl rfl rfl fun a hK => ?_
          refine wpList_nil (nm_then ?_)
          refine wp_ret (rt_then ?_)
          have h := Option.some.inj h
          subst h
          exact finR1 hK rfl (RV.tmp hK rfl) ⟨rfl, hM.ext⟩
        · have h := bif_f hb44 h
          refine wp_skip (nm_then ?_)
          refine wp_seq ?_
          refine wp_seq ?_
          refine wp_region_lit ?_
          refine s_val hK rfl rfl rfl (r_fa fa40_4 hK rfl rfl) fun a hK => ?_
          refine s_val hK rfl rfl rfl (r_ldb t137 hM 1 hb28 7 hK rfl rfl rfl rfl rfl) fun a hK => ?_
          refine s_val hK rfl rfl rfl (r_fa fa40_4 hK rfl rfl) fun a hK => ?_
          refine s_val hK rfl rfl rfl (r_ldb t137 hM 0 hb31 7 hK rfl rfl rfl rfl rfl) fun a hK => ?_
          obtain ⟨x45, hx46, h⟩ := obind_some h
          refine s_call hK Tryz.call81 rfl rfl rfl rfl rfl (c_laws_eqTypeS fu _ _ (Enc.rd_agr hf16 (hM.a00 (Enc.rd_lt hf16))) (Enc.rd_agr hf25 (hM.a00 (Enc.rd_lt hf25))) hx46) fun e47 w48 hR => ?_
          obtain ⟨rfl, hE⟩ := hR
          refine ⟨_, rfl, fun a hK => ?_⟩
          have hM := hM.step hE
          refine s1 hK rfl rfl rfl rfl fun a hK => ?_
          refine wpList_nil (nm_then ?_)
          refine c_cond (b := !x45) hK rfl (fun hb49 => ?_) (fun hb49 => ?_)
          · have h := bif_t hb49 h
            refine wp_seq ?_
            refine wp_region_lit ?_
            refine s1 hK rfl rfl rfl rfl fun a hK => ?_
            refine wpList_nil (nm_then ?_)
            refine wp_ret (rt_then ?_)
            have h := Option.some.inj h
            subst h
            exact finR1 hK rfl (RV.tmp hK rfl) ⟨rfl, hM.ext⟩
          · have h := bif_f hb49 h
            refine wp_skip (nm_then ?_)
            refine wp_seq ?_
            refine wp_seq ?_
            refine wp_region_lit ?_
            refine s_val hK rfl rfl rfl (r_fa fa40_5 hK rfl rfl) fun a hK => ?_
            refine s_val hK rfl rfl rfl (r_ldb t13 hM 1 hb28 8 hK rfl rfl rfl rfl rfl) fun a hK => ?_
            refine s_val hK rfl rfl rfl (r_fa fa40_5 hK rfl rfl) fun a hK => ?_
            refine s_val hK rfl rfl rfl (r_ldb t13 hM 0 hb31 8 hK rfl rfl rfl rfl rfl) fun a hK => ?_
            refine s1 hK rfl rfl rfl rfl fun a hK => ?_
            refine wpList_nil (nm_then ?_)
            refine c_cond (b := a1.fMaster != b5.fMaster) hK rfl (fun hb50 => ?_) (fun hb50 => ?_)
            · have h := bif_t hb50 h
              refine wp_seq ?_
              refine wp_region_lit ?_
              refine s1 hK rfl rfl rfl rfl fun a hK => ?_
              refine wpList_nil (nm_then ?_)
              refine wp_ret (rt_then ?_)
              have h := Option.some.inj h
              subst h
              exact finR1 hK rfl (RV.tmp hK rfl) ⟨rfl, hM.ext⟩
            · have h := bif_f hb50 h
              refine wp_skip (nm_then ?_)
              refine wp_seq ?_
              refine wp_seq ?_
              refine wp_region_lit ?_
              refine s_val hK rfl rfl rfl (r_fa fa40_6 hK rfl rfl) fun a hK => ?_
              refine s_val hK rfl rfl rfl (r_ldb t138 hM 1 hb28 9 hK rfl rfl rfl rfl rfl) fun a hK => ?_
              refine s_val hK rfl rfl rfl (r_fa fa40_6 hK rfl rfl) fun a hK => ?_
              refine s_val hK rfl rfl rfl (r_ldb t138 hM 0 hb31 9 hK rfl rfl rfl rfl rfl) fun a hK => ?_
              obtain ⟨x51, hx52, h⟩ := obind_some h
              refine s_call hK Tryz.call82 rfl rfl rfl rfl rfl (c_laws_eqItemS fu _ _ (Enc.rd_agr hf17 (hM.a00 (Enc.rd_lt hf17))) (Enc.rd_agr hf26 (hM.a00 (Enc.rd_lt hf26))) hx52) fun e53 w54 hR => ?_
              obtain ⟨rfl, hE⟩ := hR
              refine ⟨_, rfl, fun a hK => ?_⟩
              have hM := hM.step hE
              refine s1 hK rfl rfl rfl rfl fun a hK => ?_
              refine wpList_nil (nm_then ?_)
              refine c_cond (b := !x51) hK rfl (fun hb55 => ?_) (fun hb55 => ?_)
              · have h := bif_t hb55 h
                refine wp_seq ?_
                refine wp_region_lit ?_
                refine s1 hK rfl rfl rfl rfl fun a hK => ?_
                refine wpList_nil (nm_then ?_)
                refine wp_ret (rt_then ?_)
                have h := Option.some.inj h
                subst h
                exact finR1 hK rfl (RV.tmp hK rfl) ⟨rfl, hM.ext⟩
              · have h := bif_f hb55 h
                refine wp_skip (nm_then ?_)
                refine wp_seq ?_
                refine wp_region_lit ?_
                refine s1 hK rfl rfl rfl rfl fun a hK => ?_
                refine wpList_nil (nm_then ?_)
                refine wp_ret ?_
                have h := Option.some.inj h
                subst h
                exact finR1 hK rfl (RV.tmp hK rfl) ⟨rfl, hM.ext⟩

theorem c_laws_FnExactPromise (fu : Nat) {w0 : World} (aR1 : Request) (aK5 : Int) (aN6 : Int) {cs2 : List Value} {F3 : List Nat} (hp4 : rd w0 F3 cs2 aR1) {r : Bool}
    (h : d_laws_FnExactPromise fu aR1 aK5 aN6 = some r) :
    Calls Tryz.prog 12 #[.agg cs2.toArray, .int .i64 (aK5), .int .i64 (aN6)] w0 fun e w => e = .returned (.bool (r)) ∧ Ext [] w0 w := by
  refine enter (vs := [_, _, _]) Tryz.func12 rfl Tryz.ntmps12 rfl fun a hK => ?_
  have hM := St.start w0
  obtain ⟨v7, F8, v9, F10, v11, F12, rfl, rfl, hf13, hf14, hf15⟩ := hp4
  unfold d_laws_FnExactPromise at h
  refine wp_seq ?_
  refine wp_region_lit ?_
  refine s_box (cs := [.int .i64 (aR1.fWay), .int .i64 (aR1.fPallet.fW), .int .i64 (aR1.fPallet.fD), .int .i64 (aR1.fPallet.fH), .int .i64 (aR1.fPallet.fGram), .int .i64 (aR1.fClasses), v7, v9, .int .i64 (aR1.fMaster), v11]) hM hK rfl rfl rfl rfl rfl rfl fun b16 w18 a hK hM hE hb17 => ?_
  refine s1 hK rfl rfl rfl rfl fun a hK => ?_
  refine wpList_nil (nm_then ?_)
  refine wp_seq ?_
  refine wp_region_lit ?_
  refine s1 hK rfl rfl rfl rfl fun a hK => ?_
  refine wpList_nil (nm_then ?_)
  refine wp_seq ?_
  refine wp_region_lit ?_
  refine s_val hK rfl rfl rfl (r_ldB ta28 hM 0 hb17 0 hK rfl rfl rfl rfl rfl rfl) fun a hK => ?_
  refine s1 hK rfl rfl rfl rfl fun a hK => ?_
  obtain ⟨x19, hx20, h⟩ := obind_some h
  refine s_call hK Tryz.call15 rfl rfl rfl rfl rfl (c_laws_szRequest fu _ _ (show rd _ _ [.int .i64 (aR1.fWay), .int .i64 (aR1.fPallet.fW), .int .i64 (aR1.fPallet.fD), .int .i64 (aR1.fPallet.fH), .int .i64 (aR1.fPallet.fGram), .int .i64 (aR1.fClasses), v7, v9, .int .i64 (aR1.fMaster), v11] (aR1 : Request) from ⟨_, _, _, _, _, _, rfl, rfl, (Enc.rd_agr hf13 (hM.a00 (Enc.rd_lt hf13))), (Enc.rd_agr hf14 (hM.a00 (Enc.rd_lt hf14))), (Enc.rd_agr hf15 (hM.a00 (Enc.rd_lt hf15)))⟩) hx20) fun e21 w22 hR => ?_
  obtain ⟨rfl, hE⟩ := hR
  refine ⟨_, rfl, fun a hK => ?_⟩
  have hM := hM.step hE
  refine s1 hK rfl rfl rfl rfl fun a hK => ?_
  refine wpList_nil (nm_then ?_)
  refine wp_seq ?_
  refine wp_seq ?_
  refine wp_region_lit ?_
  iterate 2 (refine s1 hK rfl rfl rfl rfl fun a hK => ?_)
  refine wpList_nil (nm_then ?_)
  refine c_cond (b := decide (x19 < 0)) hK rfl (fun hb23 => ?_) (fun hb23 => ?_)
  · have h := bif_t hb23 h
    refine wp_seq ?_
    refine wp_region_lit ?_
    refine s1 hK rfl rfl rfl rfl fun a hK => ?_
    refine wpList_nil (nm_then ?_)
    refine wp_ret (rt_then ?_)
    have h := Option.some.inj h
    subst h
    exact finR1 hK rfl (RV.tmp hK rfl) ⟨rfl, hM.ext⟩
  · have h := bif_f hb23 h
    refine wp_skip (nm_then ?_)
    refine wp_seq ?_
    refine wp_region_lit ?_
    refine s_val hK rfl rfl rfl (r_ldB ta28 hM 0 hb17 0 hK rfl rfl rfl rfl rfl rfl) fun a hK => ?_
    obtain ⟨x24, hx25, h⟩ := obind_some h
    refine s_call hK Tryz.call18 rfl rfl rfl rfl rfl (c_laws_toRequest fu _ (show rd _ _ [.int .i64 (aR1.fWay), .int .i64 (aR1.fPallet.fW), .int .i64 (aR1.fPallet.fD), .int .i64 (aR1.fPallet.fH), .int .i64 (aR1.fPallet.fGram), .int .i64 (aR1.fClasses), v7, v9, .int .i64 (aR1.fMaster), v11] (aR1 : Request) from ⟨_, _, _, _, _, _, rfl, rfl, (Enc.rd_agr hf13 (hM.a00 (Enc.rd_lt hf13))), (Enc.rd_agr hf14 (hM.a00 (Enc.rd_lt hf14))), (Enc.rd_agr hf15 (hM.a00 (Enc.rd_lt hf15)))⟩) hx25) fun e26 w27 hR => ?_
    obtain ⟨cs32, F28, rfl, hE, hf29, hfr30⟩ := hR
    refine ⟨_, rfl, fun a hK => ?_⟩
    have hM := hM.new hE F28 (fun b hb => ⟨hfr30 b hb, Enc.rd_lt (Enc.ow_rd hf29) b hb⟩) (Enc.ow_nd hf29)
    obtain ⟨v33, F34, v36, F37, v39, F40, rfl, rfl, hf35, hf38, hf41, _⟩ := hf29
    have hM := hM.split2
    have hM := hM.split2at1
    iterate 2 (refine s1 hK rfl rfl rfl rfl fun a hK => ?_)
    obtain ⟨x42, hx43, h⟩ := obind_some h
    refine s_call hK Tryz.call53 rfl rfl rfl rfl rfl (c_spec_Promise fu _ _ _ (show rd _ _ [.int .i64 (x24.fWay), .int .i64 (x24.fPallet.fW), .int .i64 (x24.fPallet.fD), .int .i64 (x24.fPallet.fH), .int .i64 (x24.fPallet.fGram), .int .i64 (x24.fClasses), v33, v36, .int .i64 (x24.fMaster), v39] (x24 : Request) from ⟨_, _, _, _, _, _, rfl, rfl, (Enc.rd_agr (Enc.ow_rd hf35) (hM.a 0 rfl)), (Enc.rd_agr (Enc.ow_rd hf38) (hM.a 1 rfl)), (Enc.rd_agr (Enc.ow_rd hf41) (hM.a 2 rfl))⟩) hx43) fun e44 w45 hR => ?_
    obtain ⟨rfl, hE⟩ := hR
    refine ⟨_, rfl, fun a hK => ?_⟩
    have hM := hM.step hE
    refine s1 hK rfl rfl rfl rfl fun a hK => ?_
    refine wpList_nil (nm_then ?_)
    refine wp_seq ?_
    refine wp_region_lit ?_
    refine s_val hK rfl rfl rfl (r_ldB ta28 hM 3 hb17 0 hK rfl rfl rfl rfl rfl rfl) fun a hK => ?_
    obtain ⟨x46, hx47, h⟩ := obind_some h
    refine s_call hK Tryz.call18 rfl rfl rfl rfl rfl (c_laws_toRequest fu _ (show rd _ _ [.int .i64 (aR1.fWay), .int .i64 (aR1.fPallet.fW), .int .i64 (aR1.fPallet.fD), .int .i64 (aR1.fPallet.fH), .int .i64 (aR1.fPallet.fGram), .int .i64 (aR1.fClasses), v7, v9, .int .i64 (aR1.fMaster), v11] (aR1 : Request) from ⟨_, _, _, _, _, _, rfl, rfl, (Enc.rd_agr hf13 (hM.a00 (Enc.rd_lt hf13))), (Enc.rd_agr hf14 (hM.a00 (Enc.rd_lt hf14))), (Enc.rd_agr hf15 (hM.a00 (Enc.rd_lt hf15)))⟩) hx47) fun e48 w49 hR => ?_
    obtain ⟨cs54, F50, rfl, hE, hf51, hfr52⟩ := hR
    refine ⟨_, rfl, fun a hK => ?_⟩
    have hM := hM.new hE F50 (fun b hb => ⟨hfr52 b hb, Enc.rd_lt (Enc.ow_rd hf51) b hb⟩) (Enc.ow_nd hf51)
    obtain ⟨v55, F56, v58, F59, v61, F62, rfl, rfl, hf57, hf60, hf63, _⟩ := hf51
    have hM := hM.split2
    have hM := hM.split2at1
    refine s_alloc (cs := [.int .i64 (0), .int .i64 (0), .int .i64 (0), .int .i64 (0), .int .i64 (0), .int .i64 (0), .slice none 0 0, .slice none 0 0, .int .i64 (0), .slice none 0 0]) hM hK Tryz.zeroValue40 rfl rfl rfl rfl rfl fun b64 w66 a hK hM hE hb65 => ?_
    refine s_stb (cs' := [.int .i64 (x46.fWay), .int .i64 (x46.fPallet.fW), .int .i64 (x46.fPallet.fD), .int .i64 (x46.fPallet.fH), .int .i64 (x46.fPallet.fGram), .int .i64 (x46.fClasses), v55, v58, .int .i64 (x46.fMaster), v61]) Tryz.sizeOf40 hM 0 hb65 0 hK rfl rfl rfl rfl rfl rfl rfl rfl rfl rfl (allc rfl (allc rfl (allc rfl (allc rfl (allc rfl (allc rfl (allc (rd_o (Enc.ow_rd hf57)) (allc (rd_o (Enc.ow_rd hf60)) (allc rfl (allc (rd_o (Enc.ow_rd hf63)) alln)))))))))) fun w67 a hK hE hM hb68 => ?_
    refine wpList_nil (nm_then ?_)
    refine wp_seq ?_
    refine wp_region_lit ?_
    refine s_val hK rfl rfl rfl (r_ldB ta40 hM 0 hb68 0 hK rfl rfl rfl rfl rfl rfl) fun a hK => ?_
    iterate 2 (refine s1 hK rfl rfl rfl rfl fun a hK => ?_)
    obtain ⟨x69, hx70, h⟩ := obind_some h
    refine s_call hK Tryz.call54 rfl rfl rfl rfl rfl (c_impl_Promise fu _ _ _ (show rd _ _ [.int .i64 (x46.fWay), .int .i64 (x46.fPallet.fW), .int .i64 (x46.fPallet.fD), .int .i64 (x46.fPallet.fH), .int .i64 (x46.fPallet.fGram), .int .i64 (x46.fClasses), v55, v58, .int .i64 (x46.fMaster), v61] (x46 : Request) from ⟨_, _, _, _, _, _, rfl, rfl, (Enc.rd_agr (Enc.ow_rd hf57) (hM.a 1 rfl)), (Enc.rd_agr (Enc.ow_rd hf60) (hM.a 2 rfl)), (Enc.rd_agr (Enc.ow_rd hf63) (hM.a 3 rfl))⟩) hx70) fun e71 w72 hR => ?_
    obtain ⟨rfl, hE⟩ := hR
    refine ⟨_, rfl, fun a hK => ?_⟩
    have hM := hM.step hE
    refine s1 hK rfl rfl rfl rfl fun a hK => ?_
    refine wpList_nil (nm_then ?_)
    refine wp_seq ?_
    refine wp_seq ?_
    refine wp_region_lit ?_
    iterate 3 (refine s1 hK rfl rfl rfl rfl fun a hK => ?_)
    have hK := hK.keep [3, 9, 29] rfl
    refine wpList_nil (nm_then ?_)
    refine c_cond (b := x69 != x42) hK rfl (fun hb73 => ?_) (fun hb73 => ?_)
    · have h := bif_t hb73 h
      refine wp_seq ?_
      refine wp_region_lit ?_
      refine s1 hK rfl rfl rfl rfl fun a hK => ?_
      refine wpList_nil (nm_then ?_)
      refine wp_ret (rt_then ?_)
      have h := Option.some.inj h
      subst h
      exact finR1 hK rfl (RV.tmp hK rfl) ⟨rfl, hM.ext⟩
    · have h := bif_f hb73 h
      refine wp_skip (nm_then ?_)
      refine wp_seq ?_
      refine wp_seq ?_
      refine d_go [] mixo hM rfl fun w74 hMd => ?_
      have hM := hMd
      have hS := Ext.refl ([] : List Nat) w74
      refine d_take hK 0 rfl (by kernel_rfl) (by kernel_rfl) (by kernel_rfl) rfl rfl rfl hS (fun _ _ _ h => h) (fun w hS => r_ldA ta40 (hb68.at ((hMd.step hS).a 0 rfl) 0 10 rfl rfl rfl) rfl hK rfl rfl) fun a hK => ?_
      refine d_take hK 1 rfl (by kernel_rfl) (by kernel_rfl) (by kernel_rfl) rfl rfl rfl hS (fun _ _ _ h => h) (fun w hS => r_ldA ta28 (hb17.at ((hMd.step hS).a 7 rfl) 0 10 rfl rfl rfl) rfl hK rfl rfl) fun a hK => ?_
      refine d_one 2 (by kernel_rfl) rfl ?_
      obtain ⟨x75, hx76, h⟩ := obind_some h
      refine s_call hK Tryz.call18 rfl rfl rfl rfl rfl (c_laws_toRequest fu _ (show rd _ _ [.int .i64 (aR1.fWay), .int .i64 (aR1.fPallet.fW), .int .i64 (aR1.fPallet.fD), .int .i64 (aR1.fPallet.fH), .int .i64 (aR1.fPallet.fGram), .int .i64 (aR1.fClasses), v7, v9, .int .i64 (aR1.fMaster), v11] (aR1 : Request) from ⟨_, _, _, _, _, _, rfl, rfl, (Enc.rd_agr hf13 (hM.a00 (Enc.rd_lt hf13))), (Enc.rd_agr hf14 (hM.a00 (Enc.rd_lt hf14))), (Enc.rd_agr hf15 (hM.a00 (Enc.rd_lt hf15)))⟩) hx76) fun e77 w78 hR => ?_
      obtain ⟨cs83, F79, rfl, hE, hf80, hfr81⟩ := hR
      refine ⟨_, rfl, fun a hK => ?_⟩
      have hM := hM.new hE F79 (fun b hb => ⟨hfr81 b hb, Enc.rd_lt (Enc.ow_rd hf80) b hb⟩) (Enc.ow_nd hf80)
      have hlo84 := fun (y : Nat) (hy : y ∈ F79) => Nat.le_trans hS.size (hfr81 y hy)
      obtain ⟨v85, F86, v88, F89, v91, F92, rfl, rfl, hf87, hf90, hf93, _⟩ := hf80
      have hM := hM.split2
      have hM := hM.split2at1
      have hS := hS.trans hE (by simp)
      refine wpList_nil ⟨hS, ?_⟩
      refine d_one 3 (by kernel_rfl) rfl ?_
      obtain ⟨x94, hx95, h⟩ := obind_some h
      refine s_call hK Tryz.call21 rfl rfl rfl rfl rfl (c_laws_eqRequest fu _ _ (show rd _ _ [.int .i64 (x46.fWay), .int .i64 (x46.fPallet.fW), .int .i64 (x46.fPallet.fD), .int .i64 (x46.fPallet.fH), .int .i64 (x46.fPallet.fGram), .int .i64 (x46.fClasses), v55, v58, .int .i64 (x46.fMaster), v61] (x46 : Request) from ⟨_, _, _, _, _, _, rfl, rfl, (Enc.rd_agr (Enc.ow_rd hf57) (hM.a 4 rfl)), (Enc.rd_agr (Enc.ow_rd hf60) (hM.a 5 rfl)), (Enc.rd_agr (Enc.ow_rd hf63) (hM.a 6 rfl))⟩) (show rd _ _ [.int .i64 (x75.fWay), .int .i64 (x75.fPallet.fW), .int .i64 (x75.fPallet.fD), .int .i64 (x75.fPallet.fH), .int .i64 (x75.fPallet.fGram), .int .i64 (x75.fClasses), v85, v88, .int .i64 (x75.fMaster), v91] (x75 : Request) from ⟨_, _, _, _, _, _, rfl, rfl, (Enc.rd_agr (Enc.ow_rd hf87) (hM.a 0 rfl)), (Enc.rd_agr (Enc.ow_rd hf90) (hM.a 1 rfl)), (Enc.rd_agr (Enc.ow_rd hf93) (hM.a 2 rfl))⟩) hx95) fun e96 w97 hR => ?_
      obtain ⟨rfl, hE⟩ := hR
      refine ⟨_, rfl, fun a hK => ?_⟩
      have hM := hM.step hE
      have hS := hS.trans hE (by simp)
      refine wpList_nil ⟨hS, ?_⟩
      refine d_pure hK 4 rfl (by kernel_rfl) (by kernel_rfl) (by kernel_rfl) rfl rfl rfl hS (fun _ _ _ h => h) rfl fun a hK => ?_
      refine d_done (by kernel_rfl) ?_
      refine (nm_then ?_)
      refine c_cond (b := !x94) hK rfl (fun hb98 => ?_) (fun hb98 => ?_)
      · have h := bif_t hb98 h
        refine wp_seq ?_
        refine wp_region_lit ?_
        refine s1 hK rfl rfl rfl rfl fun a hK => ?_
        refine wpList_nil (nm_then ?_)
        refine wp_ret (rt_then ?_)
        have h := Option.some.inj h
        subst h
        exact finR1 hK rfl (RV.tmp hK rfl) ⟨rfl, hM.ext⟩
      · have h := bif_f hb98 h
        refine wp_skip (nm_then ?_)
        refine wp_seq ?_
        refine wp_region_lit ?_
        refine s1 hK rfl rfl rfl rfl fun a hK => ?_
        refine wpList_nil (nm_then ?_)
        refine wp_ret ?_
        have h := Option.some.inj h
        subst h
        exact finR1 hK rfl (RV.tmp hK rfl) ⟨rfl, hM.ext⟩

end Go.Proofs.YthjbcfefkdbgoaaGreat
