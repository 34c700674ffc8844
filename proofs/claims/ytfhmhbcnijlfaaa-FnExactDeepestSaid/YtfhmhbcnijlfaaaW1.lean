/- Printed by gen.py. -/
import Derived.Test.YtfhmhbcnijlfaaaProg
import Derived.Test.YtfhmhbcnijlfaaaD0
set_option maxRecDepth 20000
set_option linter.unusedVariables false
namespace Go.Proofs.Ytfhmhbcnijlfaaa
open Go Go.RowKit
open Enc (rd ow)
open Arg (argv)
open Ret (retv)

theorem mixo : Try.prog.follows .mixedOrders = true := by kernel_rfl
theorem fa46_0 : FA Try.prog 46 0 0 := fa_of (n := 0) Try.underlying46 rfl rfl Try.sizeOf3
theorem t13 : T1 Try.prog 3 := ⟨fun w => by simp [isAgg, run_underlying Try.underlying3], Try.sizeOf3⟩
theorem fa44_0 : FA Try.prog 44 0 0 := fa_of (n := 0) Try.underlying44 rfl rfl Try.sizeOf3
theorem fa46_1 : FA Try.prog 46 1 1 := fa_of (n := 0) Try.underlying46 rfl rfl Try.sizeOf3
theorem fa44_1 : FA Try.prog 44 1 1 := fa_of (n := 0) Try.underlying44 rfl rfl Try.sizeOf3
theorem fa46_2 : FA Try.prog 46 2 2 := fa_of (n := 0) Try.underlying46 rfl rfl Try.sizeOf3
theorem fa44_2 : FA Try.prog 44 2 2 := fa_of (n := 0) Try.underlying44 rfl rfl Try.sizeOf3
theorem fa46_3 : FA Try.prog 46 3 3 := fa_of (n := 0) Try.underlying46 rfl rfl Try.sizeOf3
theorem fa44_3 : FA Try.prog 44 3 3 := fa_of (n := 0) Try.underlying44 rfl rfl Try.sizeOf3
theorem ta44 : TA Try.prog 44 4 := ⟨Try.isAgg44, Try.sizeOf44⟩
theorem ts29 : TS Try.prog 29 4 := ⟨44, Try.underlying29, Try.sizeOf44⟩
theorem te29 : TE Try.prog 29 4 32 [.int .i64 0, .int .i64 0, .int .i64 0, .int .i64 0] := ⟨44, Try.t44, Try.underlying29, Try.type44, ⟨_, rfl, rfl⟩, rfl, rfl, rfl, by decide⟩
theorem ts26 : TS Try.prog 26 4 := ⟨46, Try.underlying26, Try.sizeOf46⟩
theorem ta46 : TA Try.prog 46 4 := ⟨Try.isAgg46, Try.sizeOf46⟩

def d_spec_l1In (fu : Nat) (x1 : Int) (lo2 : Int) (hi3 : Int) : Option (Bool) :=
  bif (decide (x1 ≥ lo2)) then some (decide (x1 ≤ hi3)) else some (false)

def d_impl_in (fu : Nat) (n1 : Int) (lo2 : Int) (hi3 : Int) : Option (Bool) :=
  bif (decide (n1 ≥ lo2)) then some (decide (n1 ≤ hi3)) else some (false)

def d_spec_l1Max (fu : Nat) (a1 : Int) (b2 : Int) : Option (Int) :=
  bif (decide (a1 > b2)) then some (a1) else some (b2)

def d_laws_toBox (fu : Nat) (a1 : Box) : Option (Box) :=
  some (a1)

def d_laws_eqBox (fu : Nat) (a1 : Box) (b2 : Box) : Option (Bool) :=
  bif (a1.fW != b2.fW) then some (false) else bif (a1.fD != b2.fD) then some (false) else bif (a1.fH != b2.fH) then some (false) else bif (a1.fGram != b2.fGram) then some (false) else some (true)

def d_laws_szBoxS (fu : Nat) (a1 : List Box) (left5 : Int) : Option (Int) :=
  bif (decide ((w64 (left5 - ((a1.length : Int)))) < 0)) then some ((-1)) else some (w64 (left5 - ((a1.length : Int))))

def d_spec_Deepest_L1_B (fu : Nat) (list1 : List Box) (k1 : Int → Int → Option (Int)) (n24 : Int) (i25 : Int) : Option (Int) :=
  bif (decide (i25 < ((list1.length : Int)))) then obind (ix list1 i25) fun x28 => obind (d_spec_l1Max fu n24 x28.fD) fun x30 => k1 x30 (w64 (i25 + 1)) else some (n24)
def d_spec_Deepest_L1 (fu : Nat) (list1 : List Box) : Nat → Int → Int → Option (Int)
  | 0 => fun _ _ => none
  | n + 1 => d_spec_Deepest_L1_B fu list1 (d_spec_Deepest_L1 fu list1 n)
theorem d_spec_Deepest_L1_s (fu : Nat) (list1 : List Box) (n : Nat) : d_spec_Deepest_L1 fu list1 (n + 1) = d_spec_Deepest_L1_B fu list1 (d_spec_Deepest_L1 fu list1 n) := rfl

def d_spec_Deepest (fu : Nat) (list1 : List Box) : Option (Int) :=
  d_spec_Deepest_L1 fu list1 fu 0 0

def d_laws_toBoxS_L1_B (fu : Nat) (a1 : List Box) (k1 : List Box → Int → Option ((List Box))) (out42 : List Box) (i47 : Int) : Option ((List Box)) :=
  bif (decide (i47 < ((a1.length : Int)))) then obind (ix a1 i47) fun x50 => obind (d_laws_toBox fu x50) fun x52 => obind (ix out42 i47) fun x56 => k1 (setx out42 i47 x52) (w64 (i47 + 1)) else some (out42)
def d_laws_toBoxS_L1 (fu : Nat) (a1 : List Box) : Nat → List Box → Int → Option ((List Box))
  | 0 => fun _ _ => none
  | n + 1 => d_laws_toBoxS_L1_B fu a1 (d_laws_toBoxS_L1 fu a1 n)
theorem d_laws_toBoxS_L1_s (fu : Nat) (a1 : List Box) (n : Nat) : d_laws_toBoxS_L1 fu a1 (n + 1) = d_laws_toBoxS_L1_B fu a1 (d_laws_toBoxS_L1 fu a1 n) := rfl

def d_laws_toBoxS (fu : Nat) (a1 : List Box) : Option ((List Box)) :=
  obind (mk 32 (⟨(0 : Int), (0 : Int), (0 : Int), (0 : Int)⟩ : Box) ((a1.length : Int))) fun x5 => d_laws_toBoxS_L1 fu a1 fu x5 0

def d_impl_Deepest_L1_B (fu : Nat) (list1 : List Box) (k1 : Int → Int → Option (Int)) (n26 : Int) (x27 : Int) : Option (Int) :=
  bif (decide (x27 < ((list1.length : Int)))) then obind (ix list1 x27) fun x30 => k1 (if x30.fD > n26 then x30.fD else n26) (w64 (x27 + 1)) else some (n26)
def d_impl_Deepest_L1 (fu : Nat) (list1 : List Box) : Nat → Int → Int → Option (Int)
  | 0 => fun _ _ => none
  | n + 1 => d_impl_Deepest_L1_B fu list1 (d_impl_Deepest_L1 fu list1 n)
theorem d_impl_Deepest_L1_s (fu : Nat) (list1 : List Box) (n : Nat) : d_impl_Deepest_L1 fu list1 (n + 1) = d_impl_Deepest_L1_B fu list1 (d_impl_Deepest_L1 fu list1 n) := rfl

def d_impl_Deepest (fu : Nat) (list1 : List Box) : Option (Int) :=
  d_impl_Deepest_L1 fu list1 fu 0 0

def d_laws_eqBoxS_L1_B (fu : Nat) (a1 : List Box) (b5 : List Box) (k1 : Int → Option (Bool)) (i36 : Int) : Option (Bool) :=
  bif (decide (i36 < ((a1.length : Int)))) then obind (ix a1 i36) fun x40 => obind (ix b5 i36) fun x42 => obind (d_laws_eqBox fu x40 x42) fun x44 => bif (!x44) then some (false) else k1 (w64 (i36 + 1)) else some (true)
def d_laws_eqBoxS_L1 (fu : Nat) (a1 : List Box) (b5 : List Box) : Nat → Int → Option (Bool)
  | 0 => fun _ => none
  | n + 1 => d_laws_eqBoxS_L1_B fu a1 b5 (d_laws_eqBoxS_L1 fu a1 b5 n)
theorem d_laws_eqBoxS_L1_s (fu : Nat) (a1 : List Box) (b5 : List Box) (n : Nat) : d_laws_eqBoxS_L1 fu a1 b5 (n + 1) = d_laws_eqBoxS_L1_B fu a1 b5 (d_laws_eqBoxS_L1 fu a1 b5 n) := rfl

def d_laws_eqBoxS (fu : Nat) (a1 : List Box) (b5 : List Box) : Option (Bool) :=
  bif (((a1.length : Int)) != ((b5.length : Int))) then some (false) else d_laws_eqBoxS_L1 fu a1 b5 fu 0

def d_laws_FnExactDeepest (fu : Nat) (aList1 : List Box) : Option (Bool) :=
  obind (d_laws_szBoxS fu aList1 1048576) fun x5 => bif (decide (x5 < 0)) then some (true) else obind (d_laws_toBoxS fu aList1) fun x10 => obind (d_spec_Deepest fu x10) fun x19 => obind (d_laws_toBoxS fu aList1) fun x23 => obind (d_impl_Deepest fu x23) fun x32 => bif (x32 != x19) then some (false) else obind (d_laws_toBoxS fu aList1) fun x37 => obind (d_laws_eqBoxS fu x23 x37) fun x46 => bif (!x46) then some (false) else some (true)

theorem c_spec_l1In (fu : Nat) {w0 : World} (x1 : Int) (lo2 : Int) (hi3 : Int)  {r : Bool}
    (h : d_spec_l1In fu x1 lo2 hi3 = some r) :
    Calls Try.prog 22 #[.int .i64 (x1), .int .i64 (lo2), .int .i64 (hi3)] w0 fun e w => e = .returned (.bool (r)) ∧ Ext [] w0 w := by
  refine enter (vs := [_, _, _]) Try.func22 rfl Try.ntmps22 rfl fun a hK => ?_
  have hM := St.start w0
  unfold d_spec_l1In at h
  refine wp_seq ?_
  refine wp_region_lit ?_
  refine s1 hK rfl rfl rfl rfl fun a hK => ?_
  refine wpList_nil (nm_then ?_)
  refine wp_seq ?_
  refine wp_region_lit ?_
  iterate 4 (refine s1 hK rfl rfl rfl rfl fun a hK => ?_)
  refine bsplit (decide (x1 ≥ lo2)) (fun hb4 => ?_) (fun hb4 => ?_)
  · have h := bif_t hb4 h
    have hK := hK.re (d := 10) rfl (congrArg Value.bool hb4)
    iterate 5 (refine s1 hK rfl rfl rfl rfl fun a hK => ?_)
    refine wpList_nil (nm_then ?_)
    refine wp_ret ?_
    have h := Option.some.inj h
    subst h
    exact finR1 hK rfl (RV.tmp hK rfl) ⟨rfl, hM.ext⟩
  · have h := bif_f hb4 h
    have hK := hK.re (d := 10) rfl (congrArg Value.bool hb4)
    refine sk hK rfl rfl rfl fun a hK => ?_
    refine sk hK rfl rfl rfl fun a hK => ?_
    refine sk hK rfl rfl rfl fun a hK => ?_
    iterate 2 (refine s1 hK rfl rfl rfl rfl fun a hK => ?_)
    refine wpList_nil (nm_then ?_)
    refine wp_ret ?_
    have h := Option.some.inj h
    subst h
    exact finR1 hK rfl (RV.tmp hK rfl) ⟨rfl, hM.ext⟩

theorem c_impl_in (fu : Nat) {w0 : World} (n1 : Int) (lo2 : Int) (hi3 : Int)  {r : Bool}
    (h : d_impl_in fu n1 lo2 hi3 = some r) :
    Calls Try.prog 23 #[.int .i64 (n1), .int .i64 (lo2), .int .i64 (hi3)] w0 fun e w => e = .returned (.bool (r)) ∧ Ext [] w0 w := by
  refine enter (vs := [_, _, _]) Try.func23 rfl Try.ntmps23 rfl fun a hK => ?_
  have hM := St.start w0
  unfold d_impl_in at h
  refine wp_seq ?_
  refine wp_region_lit ?_
  refine s1 hK rfl rfl rfl rfl fun a hK => ?_
  refine wpList_nil (nm_then ?_)
  refine wp_seq ?_
  refine wp_region_lit ?_
  iterate 4 (refine s1 hK rfl rfl rfl rfl fun a hK => ?_)
  refine bsplit (decide (n1 ≥ lo2)) (fun hb4 => ?_) (fun hb4 => ?_)
  · have h := bif_t hb4 h
    have hK := hK.re (d := 10) rfl (congrArg Value.bool hb4)
    iterate 5 (refine s1 hK rfl rfl rfl rfl fun a hK => ?_)
    refine wpList_nil (nm_then ?_)
    refine wp_ret ?_
    have h := Option.some.inj h
    subst h
    exact finR1 hK rfl (RV.tmp hK rfl) ⟨rfl, hM.ext⟩
  · have h := bif_f hb4 h
    have hK := hK.re (d := 10) rfl (congrArg Value.bool hb4)
    refine sk hK rfl rfl rfl fun a hK => ?_
    refine sk hK rfl rfl rfl fun a hK => ?_
    refine sk hK rfl rfl rfl fun a hK => ?_
    iterate 2 (refine s1 hK rfl rfl rfl rfl fun a hK => ?_)
    refine wpList_nil (nm_then ?_)
    refine wp_ret ?_
    have h := Option.some.inj h
    subst h
    exact finR1 hK rfl (RV.tmp hK rfl) ⟨rfl, hM.ext⟩

theorem c_spec_l1Max (fu : Nat) {w0 : World} (a1 : Int) (b2 : Int)  {r : Int}
    (h : d_spec_l1Max fu a1 b2 = some r) :
    Calls Try.prog 24 #[.int .i64 (a1), .int .i64 (b2)] w0 fun e w => e = .returned (.int .i64 (r)) ∧ Ext [] w0 w := by
  refine enter (vs := [_, _]) Try.func24 rfl Try.ntmps24 rfl fun a hK => ?_
  have hM := St.start w0
  unfold d_spec_l1Max at h
  refine wp_seq ?_
  refine wp_region_lit ?_
  refine s1 hK rfl rfl rfl rfl fun a hK => ?_
  refine wpList_nil (nm_then ?_)
  refine wp_seq ?_
  refine wp_seq ?_
  refine wp_region_lit ?_
  iterate 3 (refine s1 hK rfl rfl rfl rfl fun a hK => ?_)
  refine wpList_nil (nm_then ?_)
  refine c_cond (b := decide (a1 > b2)) hK rfl (fun hb3 => ?_) (fun hb3 => ?_)
  · have h := bif_t hb3 h
    refine wp_seq ?_
    refine wp_region_lit ?_
    iterate 2 (refine s1 hK rfl rfl rfl rfl fun a hK => ?_)
    refine wpList_nil (nm_then ?_)
    refine wp_ret (rt_then ?_)
    have h := Option.some.inj h
    subst h
    exact finR1 hK rfl (RV.tmp hK rfl) ⟨rfl, hM.ext⟩
  · have h := bif_f hb3 h
    refine wp_skip (nm_then ?_)
    refine wp_seq ?_
    refine wp_region_lit ?_
    iterate 2 (refine s1 hK rfl rfl rfl rfl fun a hK => ?_)
    refine wpList_nil (nm_then ?_)
    refine wp_ret ?_
    have h := Option.some.inj h
    subst h
    exact finR1 hK rfl (RV.tmp hK rfl) ⟨rfl, hM.ext⟩

theorem c_laws_toBox (fu : Nat) {w0 : World} (a1 : Box)  {r : Box}
    (h : d_laws_toBox fu a1 = some r) :
    Calls Try.prog 25 #[.agg (Flat.e (a1)).toArray] w0 fun e w => e = .returned (.agg (Flat.e r).toArray) ∧ Ext [] w0 w := by
  refine enter (vs := [_]) Try.func25 rfl Try.ntmps25 rfl fun a hK => ?_
  have hM := St.start w0
  unfold d_laws_toBox at h
  refine wp_seq ?_
  refine wp_region_lit ?_
  refine s_box (cs := [.int .i64 (a1.fW), .int .i64 (a1.fD), .int .i64 (a1.fH), .int .i64 (a1.fGram)]) hM hK rfl rfl rfl rfl rfl rfl fun b2 w4 a hK hM hE hb3 => ?_
  refine s_alloc (cs := [.int .i64 (0), .int .i64 (0), .int .i64 (0), .int .i64 (0)]) hM hK Try.zeroValue44 rfl rfl rfl rfl rfl fun b5 w7 a hK hM hE hb6 => ?_
  refine wpList_nil (nm_then ?_)
  refine wp_seq ?_
  refine wp_region_lit ?_
  refine s_alloc (cs := [.int .i64 (0), .int .i64 (0), .int .i64 (0), .int .i64 (0)]) hM hK Try.zeroValue44 rfl rfl rfl rfl rfl fun b8 w10 a hK hM hE hb9 => ?_
  refine wpList_nil (nm_then ?_)
  refine wp_seq ?_
  refine wp_region_lit ?_
  refine s_val hK rfl rfl rfl (r_fa fa46_0 hK rfl rfl) fun a hK => ?_
  refine s_val hK rfl rfl rfl (r_ldb t13 hM 2 hb3 0 hK rfl rfl rfl rfl rfl) fun a hK => ?_
  refine s_val hK rfl rfl rfl (r_fa fa44_0 hK rfl rfl) fun a hK => ?_
  refine s_stb (cs' := [.int .i64 (a1.fW), .int .i64 (0), .int .i64 (0), .int .i64 (0)]) Try.sizeOf3 hM 0 hb9 0 hK rfl rfl rfl rfl rfl rfl rfl rfl rfl rfl rfl fun w11 a hK hE hM hb12 => ?_
  refine wpList_nil (nm_then ?_)
  refine wp_seq ?_
  refine wp_region_lit ?_
  refine s_val hK rfl rfl rfl (r_fa fa46_1 hK rfl rfl) fun a hK => ?_
  refine s_val hK rfl rfl rfl (r_ldb t13 hM 2 hb3 1 hK rfl rfl rfl rfl rfl) fun a hK => ?_
  refine s_val hK rfl rfl rfl (r_fa fa44_1 hK rfl rfl) fun a hK => ?_
  refine s_stb (cs' := [.int .i64 (a1.fW), .int .i64 (a1.fD), .int .i64 (0), .int .i64 (0)]) Try.sizeOf3 hM 0 hb12 1 hK rfl rfl rfl rfl rfl rfl rfl rfl rfl rfl rfl fun w13 a hK hE hM hb14 => ?_
  refine wpList_nil (nm_then ?_)
  refine wp_seq ?_
  refine wp_region_lit ?_
  refine s_val hK rfl rfl rfl (r_fa fa46_2 hK rfl rfl) fun a hK => ?_
  refine s_val hK rfl rfl rfl (r_ldb t13 hM 2 hb3 2 hK rfl rfl rfl rfl rfl) fun a hK => ?_
  refine s_val hK rfl rfl rfl (r_fa fa44_2 hK rfl rfl) fun a hK => ?_
  refine s_stb (cs' := [.int .i64 (a1.fW), .int .i64 (a1.fD), .int .i64 (a1.fH), .int .i64 (0)]) Try.sizeOf3 hM 0 hb14 2 hK rfl rfl rfl rfl rfl rfl rfl rfl rfl rfl rfl fun w15 a hK hE hM hb16 => ?_
  refine wpList_nil (nm_then ?_)
  refine wp_seq ?_
  refine wp_region_lit ?_
  refine s_val hK rfl rfl rfl (r_fa fa46_3 hK rfl rfl) fun a hK => ?_
  refine s_val hK rfl rfl rfl (r_ldb t13 hM 2 hb3 3 hK rfl rfl rfl rfl rfl) fun a hK => ?_
  refine s_val hK rfl rfl rfl (r_fa fa44_3 hK rfl rfl) fun a hK => ?_
  refine s_stb (cs' := [.int .i64 (a1.fW), .int .i64 (a1.fD), .int .i64 (a1.fH), .int .i64 (a1.fGram)]) Try.sizeOf3 hM 0 hb16 3 hK rfl rfl rfl rfl rfl rfl rfl rfl rfl rfl rfl fun w17 a hK hE hM hb18 => ?_
  refine wpList_nil (nm_then ?_)
  refine wp_seq ?_
  refine wp_region_lit ?_
  refine s_val hK rfl rfl rfl (r_ldB ta44 hM 0 hb18 0 hK rfl rfl rfl rfl rfl rfl) fun a hK => ?_
  refine s_stb (cs' := [.int .i64 (a1.fW), .int .i64 (a1.fD), .int .i64 (a1.fH), .int .i64 (a1.fGram)]) Try.sizeOf44 hM 1 hb6 0 hK rfl rfl rfl rfl rfl rfl rfl rfl rfl rfl rfl fun w19 a hK hE hM hb20 => ?_
  refine wpList_nil (nm_then ?_)
  refine wp_ret ?_
  have h := Option.some.inj h
  subst h
  exact finR1 hK rfl (RV.cA hK rfl ta44 (hb20.at (hM.a 1 rfl) 0 4 rfl rfl rfl) rfl) ⟨rfl, hM.ext⟩

theorem c_laws_eqBox (fu : Nat) {w0 : World} (a1 : Box) (b2 : Box)  {r : Bool}
    (h : d_laws_eqBox fu a1 b2 = some r) :
    Calls Try.prog 26 #[.agg (Flat.e (a1)).toArray, .agg (Flat.e (b2)).toArray] w0 fun e w => e = .returned (.bool (r)) ∧ Ext [] w0 w := by
  refine enter (vs := [_, _]) Try.func26 rfl Try.ntmps26 rfl fun a hK => ?_
  have hM := St.start w0
  unfold d_laws_eqBox at h
  refine wp_seq ?_
  refine wp_region_lit ?_
  refine s_box (cs := [.int .i64 (a1.fW), .int .i64 (a1.fD), .int .i64 (a1.fH), .int .i64 (a1.fGram)]) hM hK rfl rfl rfl rfl rfl rfl fun b3 w5 a hK hM hE hb4 => ?_
  refine s_box (cs := [.int .i64 (b2.fW), .int .i64 (b2.fD), .int .i64 (b2.fH), .int .i64 (b2.fGram)]) hM hK rfl rfl rfl rfl rfl rfl fun b6 w8 a hK hM hE hb7 => ?_
  refine s1 hK rfl rfl rfl rfl fun a hK => ?_
  refine wpList_nil (nm_then ?_)
  refine wp_seq ?_
  refine wp_seq ?_
  refine wp_region_lit ?_
  refine s_val hK rfl rfl rfl (r_fa fa44_0 hK rfl rfl) fun a hK => ?_
  refine s_val hK rfl rfl rfl (r_ldb t13 hM 1 hb4 0 hK rfl rfl rfl rfl rfl) fun a hK => ?_
  refine s_val hK rfl rfl rfl (r_fa fa44_0 hK rfl rfl) fun a hK => ?_
  refine s_val hK rfl rfl rfl (r_ldb t13 hM 0 hb7 0 hK rfl rfl rfl rfl rfl) fun a hK => ?_
  refine s1 hK rfl rfl rfl rfl fun a hK => ?_
  refine wpList_nil (nm_then ?_)
  refine c_cond (b := a1.fW != b2.fW) hK rfl (fun hb9 => ?_) (fun hb9 => ?_)
  · have h := bif_t hb9 h
    refine wp_seq ?_
    refine wp_region_lit ?_
    refine s1 hK rfl rfl rfl rfl fun a hK => ?_
    refine wpList_nil (nm_then ?_)
    refine wp_ret (rt_then ?_)
    have h := Option.some.inj h
    subst h
    exact finR1 hK rfl (RV.tmp hK rfl) ⟨rfl, hM.ext⟩
  · have h := bif_f hb9 h
    refine wp_skip (nm_then ?_)
    refine wp_seq ?_
    refine wp_seq ?_
    refine wp_region_lit ?_
    refine s_val hK rfl rfl rfl (r_fa fa44_1 hK rfl rfl) fun a hK => ?_
    refine s_val hK rfl rfl rfl (r_ldb t13 hM 1 hb4 1 hK rfl rfl rfl rfl rfl) fun a hK => ?_
    refine s_val hK rfl rfl rfl (r_fa fa44_1 hK rfl rfl) fun a hK => ?_
    refine s_val hK rfl rfl rfl (r_ldb t13 hM 0 hb7 1 hK rfl rfl rfl rfl rfl) fun a hK => ?_
    refine s1 hK rfl rfl rfl rfl fun a hK => ?_
    refine wpList_nil (nm_then ?_)
    refine c_cond (b := a1.fD != b2.fD) hK rfl (fun hb10 => ?_) (fun hb10 => ?_)
    · have h := bif_t hb10 h
      refine wp_seq ?_
      refine wp_region_lit ?_
      refine s1 hK rfl rfl rfl rfl fun a hK => ?_
      refine wpList_nil (nm_then ?_)
      refine wp_ret (rt_then ?_)
      have h := Option.some.inj h
      subst h
      exact finR1 hK rfl (RV.tmp hK rfl) ⟨rfl, hM.ext⟩
    · have h := bif_f hb10 h
      refine wp_skip (nm_then ?_)
      refine wp_seq ?_
      refine wp_seq ?_
      refine wp_region_lit ?_
      refine s_val hK rfl rfl rfl (r_fa fa44_2 hK rfl rfl) fun a hK => ?_
      refine s_val hK rfl rfl rfl (r_ldb t13 hM 1 hb4 2 hK rfl rfl rfl rfl rfl) fun a hK => ?_
      refine s_val hK rfl rfl rfl (r_fa fa44_2 hK rfl rfl) fun a hK => ?_
      refine s_val hK rfl rfl rfl (r_ldb t13 hM 0 hb7 2 hK rfl rfl rfl rfl rfl) fun a hK => ?_
      refine s1 hK rfl rfl rfl rfl fun a hK => ?_
      refine wpList_nil (nm_then ?_)
      refine c_cond (b := a1.fH != b2.fH) hK rfl (fun hb11 => ?_) (fun hb11 => ?_)
      · have h := bif_t hb11 h
        refine wp_seq ?_
        refine wp_region_lit ?_
        refine s1 hK rfl rfl rfl rfl fun a hK => ?_
        refine wpList_nil (nm_then ?_)
        refine wp_ret (rt_then ?_)
        have h := Option.some.inj h
        subst h
        exact finR1 hK rfl (RV.tmp hK rfl) ⟨rfl, hM.ext⟩
      · have h := bif_f hb11 h
        refine wp_skip (nm_then ?_)
        refine wp_seq ?_
        refine wp_seq ?_
        refine wp_region_lit ?_
        refine s_val hK rfl rfl rfl (r_fa fa44_3 hK rfl rfl) fun a hK => ?_
        refine s_val hK rfl rfl rfl (r_ldb t13 hM 1 hb4 3 hK rfl rfl rfl rfl rfl) fun a hK => ?_
        refine s_val hK rfl rfl rfl (r_fa fa44_3 hK rfl rfl) fun a hK => ?_
        refine s_val hK rfl rfl rfl (r_ldb t13 hM 0 hb7 3 hK rfl rfl rfl rfl rfl) fun a hK => ?_
        refine s1 hK rfl rfl rfl rfl fun a hK => ?_
        refine wpList_nil (nm_then ?_)
        refine c_cond (b := a1.fGram != b2.fGram) hK rfl (fun hb12 => ?_) (fun hb12 => ?_)
        · have h := bif_t hb12 h
          refine wp_seq ?_
          refine wp_region_lit ?_
          refine s1 hK rfl rfl rfl rfl fun a hK => ?_
          refine wpList_nil (nm_then ?_)
          refine wp_ret (rt_then ?_)
          have h := Option.some.inj h
          subst h
          exact finR1 hK rfl (RV.tmp hK rfl) ⟨rfl, hM.ext⟩
        · have h := bif_f hb12 h
          refine wp_skip (nm_then ?_)
          refine wp_seq ?_
          refine wp_region_lit ?_
          refine s1 hK rfl rfl rfl rfl fun a hK => ?_
          refine wpList_nil (nm_then ?_)
          refine wp_ret ?_
          have h := Option.some.inj h
          subst h
          exact finR1 hK rfl (RV.tmp hK rfl) ⟨rfl, hM.ext⟩

theorem c_laws_szBoxS (fu : Nat) {w0 : World} (a1 : List Box) (left5 : Int) {v2 : Value} {F3 : List Nat} (hp4 : rd w0 F3 [v2] a1) {r : Int}
    (h : d_laws_szBoxS fu a1 left5 = some r) :
    Calls Try.prog 12 #[v2, .int .i64 (left5)] w0 fun e w => e = .returned (.int .i64 (r)) ∧ Ext [] w0 w := by
  refine enter (vs := [_, _]) Try.func12 rfl Try.ntmps12 rfl fun a hK => ?_
  have hM := St.start w0
  unfold d_laws_szBoxS at h
  refine wp_seq ?_
  refine wp_region_lit ?_
  refine s1 hK rfl rfl rfl rfl fun a hK => ?_
  refine wpList_nil (nm_then ?_)
  refine wp_seq ?_
  refine wp_region_lit ?_
  iterate 2 (refine s1 hK rfl rfl rfl rfl fun a hK => ?_)
  refine s_val hK rfl rfl rfl (r_len (α := Box) hp4 hK Try.underlying26 rfl rfl) fun a hK => ?_
  iterate 2 (refine s1 hK rfl rfl rfl rfl fun a hK => ?_)
  refine wpList_nil (nm_then ?_)
  refine wp_seq ?_
  refine wp_seq ?_
  refine wp_region_lit ?_
  iterate 2 (refine s1 hK rfl rfl rfl rfl fun a hK => ?_)
  refine wpList_nil (nm_then ?_)
  refine c_cond (b := decide ((w64 (left5 - ((a1.length : Int)))) < 0)) hK rfl (fun hb6 => ?_) (fun hb6 => ?_)
  · have h := bif_t hb6 h
    refine wp_seq ?_
    refine wp_region_lit ?_
    refine s1 hK rfl rfl rfl rfl fun a hK => ?_
    refine wpList_nil (nm_then ?_)
    refine wp_ret (rt_then ?_)
    have h := Option.some.inj h
    subst h
    exact finR1 hK rfl (RV.tmp hK rfl) ⟨rfl, hM.ext⟩
  · have h := bif_f hb6 h
    refine wp_skip (nm_then ?_)
    refine wp_seq ?_
    refine wp_region_lit ?_
    iterate 2 (refine s1 hK rfl rfl rfl rfl fun a hK => ?_)
    refine wpList_nil (nm_then ?_)
    refine wp_ret ?_
    have h := Option.some.inj h
    subst h
    exact finR1 hK rfl (RV.tmp hK rfl) ⟨rfl, hM.ext⟩

theorem c_spec_Deepest (fu : Nat) {w0 : World} (list1 : List Box) {v2 : Value} {F3 : List Nat} (hp4 : rd w0 F3 [v2] list1) {r : Int}
    (h : d_spec_Deepest fu list1 = some r) :
    Calls Try.prog 13 #[v2] w0 fun e w => e = .returned (.int .i64 (r)) ∧ Ext [] w0 w := by
  refine enter (vs := [_]) Try.func13 rfl Try.ntmps13 rfl fun a hK => ?_
  have hM := St.start w0
  unfold d_spec_Deepest at h
  refine wp_seq ?_
  refine wp_region_lit ?_
  refine s1 hK rfl rfl rfl rfl fun a hK => ?_
  refine wpList_nil (nm_then ?_)
  refine wp_seq ?_
  refine wp_region_lit ?_
  refine s1 hK rfl rfl rfl rfl fun a hK => ?_
  refine wpList_nil (nm_then ?_)
  refine wp_seq ?_
  refine wp_seq ?_
  refine wp_region_lit ?_
  refine s1 hK rfl rfl rfl rfl fun a hK => ?_
  refine wpList_nil (nm_then ?_)
  refine wp_block ?_
  refine c_loop (fun n a w => ∃ (n24 : Int) (i25 : Int), K 19 [(0, v2), (3, .int .i64 (n24)), (4, .int .i64 (i25))] a ∧ St [] w0 w [] ∧ d_spec_Deepest_L1 fu list1 n n24 i25 = some r) ?_ ?_ fu _ _ ?_
  · rintro a w ⟨_, _, _, _, h⟩
    cases (show none = some _ from h)
  · rintro m26 a w23 ⟨n24, i25, hK, hM, h⟩
    rw [d_spec_Deepest_L1_s] at h
    unfold d_spec_Deepest_L1_B at h
    refine wp_seq ?_
    refine wp_seq ?_
    refine wp_region_lit ?_
    iterate 2 (refine s1 hK rfl rfl rfl rfl fun a hK => ?_)
    refine s_val hK rfl rfl rfl (r_len (α := Box) hp4 hK Try.underlying29 rfl rfl) fun a hK => ?_
    refine s1 hK rfl rfl rfl rfl fun a hK => ?_
    refine wpList_nil (nm_then ?_)
    refine c_cond (b := decide (i25 < ((list1.length : Int)))) hK rfl (fun hb27 => ?_) (fun hb27 => ?_)
    · have h := bif_t hb27 h
      refine wp_skip (nm_then ?_)
      refine wp_seq ?_
      refine wp_block ?_
      refine wp_region_lit ?_
      iterate 3 (refine s1 hK rfl rfl rfl rfl fun a hK => ?_)
      obtain ⟨x28, hx29, h⟩ := obind_some h
      refine s_val hK rfl rfl rfl (r_ixa hp4 hx29 hK ts29 rfl rfl rfl) fun a hK => ?_
      refine s_val hK rfl rfl rfl (r_fa fa44_1 hK rfl rfl) fun a hK => ?_
      refine s_val hK rfl rfl rfl (r_lde1 hp4 (hM.a00 (Enc.rd_lt hp4)) hx29 1 t13 hK rfl rfl rfl rfl) fun a hK => ?_
      obtain ⟨x30, hx31, h⟩ := obind_some h
      refine s_call hK Try.call24 rfl rfl rfl rfl rfl (c_spec_l1Max fu _ _  hx31) fun e32 w33 hR => ?_
      obtain ⟨rfl, hE⟩ := hR
      refine ⟨_, rfl, fun a hK => ?_⟩
      have hM := hM.step hE
      refine s1 hK rfl rfl rfl rfl fun a hK => ?_
      refine wpList_nil (nm_block (nm_then ?_))
      refine wp_region_lit ?_
      iterate 3 (refine s1 hK rfl rfl rfl rfl fun a hK => ?_)
      refine wpList_nil (nm_then ?_)
      exact ⟨x30, w64 (i25 + 1), hK.keep [0, 3, 4] rfl, hM.sel [] rfl (by decide), h⟩
    · have h := bif_f hb27 h
      refine wp_exit (ex_then (ex_then (ex_same (nm_then ?_))))
      refine wp_seq ?_
      refine wp_region_lit ?_
      iterate 2 (refine s1 hK rfl rfl rfl rfl fun a hK => ?_)
      refine wpList_nil (nm_then ?_)
      refine wp_ret ?_
      have h := Option.some.inj h
      subst h
      exact finR1 hK rfl (RV.tmp hK rfl) ⟨rfl, hM.ext⟩
  · exact ⟨0, 0, hK.keep [0, 3, 4] rfl, hM.sel [] rfl (by decide), h⟩

theorem c_laws_toBoxS (fu : Nat) {w0 : World} (a1 : List Box) {v2 : Value} {F3 : List Nat} (hp4 : rd w0 F3 [v2] a1) {r : (List Box)}
    (h : d_laws_toBoxS fu a1 = some r) :
    Calls Try.prog 14 #[v2] w0 fun e w => ∃ (v0 : Value) (G0 : List Nat), e = .returned (v0) ∧ Ext [] w0 w ∧ ow w G0 [v0] r ∧ (∀ b ∈ G0, w0.heap.size ≤ b) := by
  refine enter (vs := [_]) Try.func14 rfl Try.ntmps14 rfl fun a hK => ?_
  have hM := St.start w0
  unfold d_laws_toBoxS at h
  refine wp_seq ?_
  refine wp_region_lit ?_
  refine s1 hK rfl rfl rfl rfl fun a hK => ?_
  refine wpList_nil (nm_then ?_)
  refine wp_seq ?_
  refine wp_region_lit ?_
  refine s1 hK rfl rfl rfl rfl fun a hK => ?_
  refine s_val hK rfl rfl rfl (r_len (α := Box) hp4 hK Try.underlying26 rfl rfl) fun a hK => ?_
  obtain ⟨x5, hx6, h⟩ := obind_some h
  refine s_mk hx6 te29 rfl rfl hM hK rfl rfl rfl rfl rfl rfl fun g7 w8 a v10 hK hM hE hf9 => ?_
  refine s1 hK rfl rfl rfl rfl fun a hK => ?_
  refine wpList_nil (nm_then ?_)
  refine wp_seq ?_
  refine wp_seq ?_
  refine wp_region_lit ?_
  refine s1 hK rfl rfl rfl rfl fun a hK => ?_
  refine wpList_nil (nm_then ?_)
  refine wp_block ?_
  refine c_loop (fun n a w => ∃ (out42 : List Box) (v43 : Value) (F44 : List Nat) (u45 : World) (i47 : Int), K 23 [(0, v2), (3, v43), (4, .int .i64 (i47))] a ∧ St [] w0 w [(F44, u45)] ∧ ow u45 F44 [v43] out42 ∧ d_laws_toBoxS_L1 fu a1 n out42 i47 = some r) ?_ ?_ fu _ _ ?_
  · rintro a w ⟨_, _, _, _, _, _, _, _, h⟩
    cases (show none = some _ from h)
  · rintro m48 a w41 ⟨out42, v43, F44, u45, i47, hK, hM, hf46, h⟩
    rw [d_laws_toBoxS_L1_s] at h
    unfold d_laws_toBoxS_L1_B at h
    refine wp_seq ?_
    refine wp_seq ?_
    refine wp_region_lit ?_
    iterate 2 (refine s1 hK rfl rfl rfl rfl fun a hK => ?_)
    refine s_val hK rfl rfl rfl (r_len (α := Box) hp4 hK Try.underlying26 rfl rfl) fun a hK => ?_
    refine s1 hK rfl rfl rfl rfl fun a hK => ?_
    refine wpList_nil (nm_then ?_)
    refine c_cond (b := decide (i47 < ((a1.length : Int)))) hK rfl (fun hb49 => ?_) (fun hb49 => ?_)
    · have h := bif_t hb49 h
      refine wp_skip (nm_then ?_)
      refine wp_seq ?_
      refine wp_block ?_
      refine wp_region_lit ?_
      iterate 4 (refine s1 hK rfl rfl rfl rfl fun a hK => ?_)
      obtain ⟨x50, hx51, h⟩ := obind_some h
      refine s_val hK rfl rfl rfl (r_ixa hp4 hx51 hK ts26 rfl rfl rfl) fun a hK => ?_
      refine s_val hK rfl rfl rfl (r_lde hp4 (hM.a00 (Enc.rd_lt hp4)) hx51 ta46 hK rfl rfl) fun a hK => ?_
      obtain ⟨x52, hx53, h⟩ := obind_some h
      refine s_call hK Try.call25 rfl rfl rfl rfl rfl (c_laws_toBox fu _  hx53) fun e54 w55 hR => ?_
      obtain ⟨rfl, hE⟩ := hR
      refine ⟨_, rfl, fun a hK => ?_⟩
      have hM := hM.step hE
      obtain ⟨x56, hx57, h⟩ := obind_some h
      refine s_val hK rfl rfl rfl (r_ixa (Enc.ow_rd hf46) hx57 hK ts29 rfl rfl rfl) fun a hK => ?_
      refine s_ste (α := Box) (sz := 4) (y := x52) Try.sizeOf44 hx57 hM 0 hf46 0 hK rfl rfl rfl rfl rfl rfl rfl rfl rfl rfl rfl rfl fun w58 a hK hE hM hf59 => ?_
      refine wpList_nil (nm_block (nm_then ?_))
      refine wp_region_lit ?_
      iterate 3 (refine s1 hK rfl rfl rfl rfl fun a hK => ?_)
      refine wpList_nil (nm_then ?_)
      exact ⟨setx out42 i47 x52, v43, F44, w58, w64 (i47 + 1), hK.keep [0, 3, 4] rfl, hM.sel [0] rfl (by decide), hf59, h⟩
    · have h := bif_f hb49 h
      refine wp_exit (ex_then (ex_then (ex_same (nm_then ?_))))
      refine wp_seq ?_
      refine wp_region_lit ?_
      iterate 2 (refine s1 hK rfl rfl rfl rfl fun a hK => ?_)
      refine wpList_nil (nm_then ?_)
      refine wp_ret ?_
      have h := Option.some.inj h
      subst h
      exact finR1 hK rfl (RV.tmp hK rfl) ⟨_, F44, rfl, hM.ext, (Enc.ow_agr hf46 (hM.a 0 rfl)), (hM.fresh 0 rfl)⟩
  · exact ⟨x5, v10, [g7], w8, 0, hK.keep [0, 3, 4] rfl, hM.sel [0] rfl (by decide), hf9, h⟩

theorem c_impl_Deepest (fu : Nat) {w0 : World} (list1 : List Box) {v2 : Value} {F3 : List Nat} (hp4 : rd w0 F3 [v2] list1) {r : Int}
    (h : d_impl_Deepest fu list1 = some r) :
    Calls Try.prog 15 #[v2] w0 fun e w => e = .returned (.int .i64 (r)) ∧ Ext [] w0 w := by
  refine enter (vs := [_]) Try.func15 rfl Try.ntmps15 rfl fun a hK => ?_
  have hM := St.start w0
  unfold d_impl_Deepest at h
  refine wp_seq ?_
  refine wp_region_lit ?_
  refine s1 hK rfl rfl rfl rfl fun a hK => ?_
  refine wpList_nil (nm_then ?_)
  refine wp_seq ?_
  refine wp_region_lit ?_
  refine s1 hK rfl rfl rfl rfl fun a hK => ?_
  refine wpList_nil (nm_then ?_)
  refine wp_seq ?_
  refine wp_seq ?_
  refine wp_region_lit ?_
  refine s1 hK rfl rfl rfl rfl fun a hK => ?_
  refine s_val hK rfl rfl rfl (r_len (α := Box) hp4 hK Try.underlying29 rfl rfl) fun a hK => ?_
  refine s1 hK rfl rfl rfl rfl fun a hK => ?_
  refine wpList_nil (nm_then ?_)
  refine wp_block ?_
  refine c_loop (fun n a w => ∃ (n26 : Int) (x27 : Int), K 18 [(3, .int .i64 (n26)), (6, v2), (7, .int .i64 ((list1.length : Int))), (8, .int .i64 (x27))] a ∧ St [] w0 w [] ∧ d_impl_Deepest_L1 fu list1 n n26 x27 = some r) ?_ ?_ fu _ _ ?_
  · rintro a w ⟨_, _, _, _, h⟩
    cases (show none = some _ from h)
  · rintro m28 a w25 ⟨n26, x27, hK, hM, h⟩
    rw [d_impl_Deepest_L1_s] at h
    unfold d_impl_Deepest_L1_B at h
    refine wp_seq ?_
    refine wp_region_lit ?_
    refine s1 hK rfl rfl rfl rfl fun a hK => ?_
    refine wpList_nil (nm_then ?_)
    refine wp_seq ?_
    refine c_cond (b := decide (x27 < ((list1.length : Int)))) hK rfl (fun hb29 => ?_) (fun hb29 => ?_)
    · have h := bif_t hb29 h
      refine wp_skip (nm_then ?_)
      refine wp_seq ?_
      refine wp_block ?_
      refine wp_seq ?_
      refine wp_region_lit ?_
      obtain ⟨x30, hx31, h⟩ := obind_some h
      refine s_val hK rfl rfl rfl (r_ixa hp4 hx31 hK ts29 rfl rfl rfl) fun a hK => ?_
      refine s_val hK rfl rfl rfl (r_lde hp4 (hM.a00 (Enc.rd_lt hp4)) hx31 ta44 hK rfl rfl) fun a hK => ?_
      refine s_alloc (cs := [.int .i64 (0), .int .i64 (0), .int .i64 (0), .int .i64 (0)]) hM hK Try.zeroValue44 rfl rfl rfl rfl rfl fun b32 w34 a hK hM hE hb33 => ?_
      refine s_stb (cs' := [.int .i64 (x30.fW), .int .i64 (x30.fD), .int .i64 (x30.fH), .int .i64 (x30.fGram)]) Try.sizeOf44 hM 0 hb33 0 hK rfl rfl rfl rfl rfl rfl rfl rfl rfl rfl rfl fun w35 a hK hE hM hb36 => ?_
      refine wpList_nil (nm_then ?_)
      refine wp_region_lit ?_
      refine s1 hK rfl rfl rfl rfl fun a hK => ?_
      refine s_val hK rfl rfl rfl (r_fa fa44_1 hK rfl rfl) fun a hK => ?_
      refine s_val hK rfl rfl rfl (r_ldb t13 hM 0 hb36 1 hK rfl rfl rfl rfl rfl) fun a hK => ?_
      iterate 2 (refine s1 hK rfl rfl rfl rfl fun a hK => ?_)
      refine wpList_nil (nm_block (nm_then ?_))
      refine wp_region_lit ?_
      iterate 2 (refine s1 hK rfl rfl rfl rfl fun a hK => ?_)
      refine wpList_nil (nm_then ?_)
      exact ⟨if x30.fD > n26 then x30.fD else n26, w64 (x27 + 1), hK.keep [3, 6, 7, 8] rfl, hM.sel [] rfl (by decide), h⟩
    · have h := bif_f hb29 h
      refine wp_exit (ex_then (ex_then (ex_same (nm_then ?_))))
      refine wp_seq ?_
      refine wp_region_lit ?_
      iterate 2 (refine s1 hK rfl rfl rfl rfl fun a hK => ?_)
      refine wpList_nil (nm_then ?_)
      refine wp_ret ?_
      have h := Option.some.inj h
      subst h
      exact finR1 hK rfl (RV.tmp hK rfl) ⟨rfl, hM.ext⟩
  · exact ⟨0, 0, hK.keep [3, 6, 7, 8] rfl, hM.sel [] rfl (by decide), h⟩

theorem c_laws_eqBoxS (fu : Nat) {w0 : World} (a1 : List Box) (b5 : List Box) {v2 : Value} {F3 : List Nat} (hp4 : rd w0 F3 [v2] a1) {v6 : Value} {F7 : List Nat} (hp8 : rd w0 F7 [v6] b5) {r : Bool}
    (h : d_laws_eqBoxS fu a1 b5 = some r) :
    Calls Try.prog 16 #[v2, v6] w0 fun e w => e = .returned (.bool (r)) ∧ Ext [] w0 w := by
  refine enter (vs := [_, _]) Try.func16 rfl Try.ntmps16 rfl fun a hK => ?_
  have hM := St.start w0
  unfold d_laws_eqBoxS at h
  refine wp_seq ?_
  refine wp_region_lit ?_
  refine s1 hK rfl rfl rfl rfl fun a hK => ?_
  refine wpList_nil (nm_then ?_)
  refine wp_seq ?_
  refine wp_seq ?_
  refine wp_region_lit ?_
  refine s1 hK rfl rfl rfl rfl fun a hK => ?_
  refine s_val hK rfl rfl rfl (r_len (α := Box) hp4 hK Try.underlying29 rfl rfl) fun a hK => ?_
  refine s1 hK rfl rfl rfl rfl fun a hK => ?_
  refine s_val hK rfl rfl rfl (r_len (α := Box) hp8 hK Try.underlying29 rfl rfl) fun a hK => ?_
  refine s1 hK rfl rfl rfl rfl fun a hK => ?_
  refine wpList_nil (nm_then ?_)
  refine c_cond (b := ((a1.length : Int)) != ((b5.length : Int))) hK rfl (fun hb9 => ?_) (fun hb9 => ?_)
  · have h := bif_t hb9 h
    refine wp_seq ?_
    refine wp_region_lit ?_
    refine s1 hK rfl rfl rfl rfl fun a hK => ?_
    refine wpList_nil (nm_then ?_)
    refine wp_ret (rt_then ?_)
    have h := Option.some.inj h
    subst h
    exact finR1 hK rfl (RV.tmp hK rfl) ⟨rfl, hM.ext⟩
  · have h := bif_f hb9 h
    refine wp_skip (nm_then ?_)
    refine wp_seq ?_
    refine wp_seq ?_
    refine wp_region_lit ?_
    refine s1 hK rfl rfl rfl rfl fun a hK => ?_
    refine wpList_nil (nm_then ?_)
    refine wp_block ?_
    refine c_loop (fun n a w => ∃ (i36 : Int), K 27 [(0, v2), (1, v6), (5, .int .i64 (i36))] a ∧ St [] w0 w [] ∧ d_laws_eqBoxS_L1 fu a1 b5 n i36 = some r) ?_ ?_ fu _ _ ?_
    · rintro a w ⟨_, _, _, h⟩
      cases (show none = some _ from h)
    · rintro m37 a w35 ⟨i36, hK, hM, h⟩
      rw [d_laws_eqBoxS_L1_s] at h
      unfold d_laws_eqBoxS_L1_B at h
      refine wp_seq ?_
      refine wp_seq ?_
      refine wp_region_lit ?_
      iterate 2 (refine s1 hK rfl rfl rfl rfl fun a hK => ?_)
      refine s_val hK rfl rfl rfl (r_len (α := Box) hp4 hK Try.underlying29 rfl rfl) fun a hK => ?_
      refine s1 hK rfl rfl rfl rfl fun a hK => ?_
      refine wpList_nil (nm_then ?_)
      refine c_cond (b := decide (i36 < ((a1.length : Int)))) hK rfl (fun hb38 => ?_) (fun hb38 => ?_)
      · have h := bif_t hb38 h
        refine wp_skip (nm_then ?_)
        refine wp_seq ?_
        refine wp_block ?_
        refine wp_seq ?_
        refine d_go [] mixo hM rfl fun w39 hM => ?_
        have hS := Ext.refl ([] : List Nat) w39
        refine d_pure hK 0 rfl (by kernel_rfl) (by kernel_rfl) (by kernel_rfl) rfl rfl rfl hS (fun _ _ _ h => h) rfl fun a hK => ?_
        refine d_pure hK 1 rfl (by kernel_rfl) (by kernel_rfl) (by kernel_rfl) rfl rfl rfl hS (fun _ _ _ h => h) rfl fun a hK => ?_
        obtain ⟨x40, hx41, h⟩ := obind_some h
        refine d_take hK 2 rfl (by kernel_rfl) (by kernel_rfl) (by kernel_rfl) rfl rfl rfl hS (fun _ _ _ h => h) (fun w hS => have hM := hM.step hS; r_ixa hp4 hx41 hK ts29 rfl rfl rfl) fun a hK => ?_
        refine d_take hK 3 rfl (by kernel_rfl) (by kernel_rfl) (by kernel_rfl) rfl rfl rfl hS (fun _ _ _ h => h) (fun w hS => have hM := hM.step hS; r_lde hp4 (hM.a00 (Enc.rd_lt hp4)) hx41 ta44 hK rfl rfl) fun a hK => ?_
        refine d_pure hK 4 rfl (by kernel_rfl) (by kernel_rfl) (by kernel_rfl) rfl rfl rfl hS (fun _ _ _ h => h) rfl fun a hK => ?_
        refine d_pure hK 5 rfl (by kernel_rfl) (by kernel_rfl) (by kernel_rfl) rfl rfl rfl hS (fun _ _ _ h => h) rfl fun a hK => ?_
        obtain ⟨x42, hx43, h⟩ := obind_some h
        refine d_take hK 6 rfl (by kernel_rfl) (by kernel_rfl) (by kernel_rfl) rfl rfl rfl hS (fun _ _ _ h => h) (fun w hS => have hM := hM.step hS; r_ixa hp8 hx43 hK ts29 rfl rfl rfl) fun a hK => ?_
        refine d_take hK 7 rfl (by kernel_rfl) (by kernel_rfl) (by kernel_rfl) rfl rfl rfl hS (fun _ _ _ h => h) (fun w hS => have hM := hM.step hS; r_lde hp8 (hM.a00 (Enc.rd_lt hp8)) hx43 ta44 hK rfl rfl) fun a hK => ?_
        refine d_one 8 (by kernel_rfl) rfl ?_
        obtain ⟨x44, hx45, h⟩ := obind_some h
        refine s_call hK Try.call26 rfl rfl rfl rfl rfl (c_laws_eqBox fu _ _  hx45) fun e46 w47 hR => ?_
        obtain ⟨rfl, hE⟩ := hR
        refine ⟨_, rfl, fun a hK => ?_⟩
        have hM := hM.step hE
        have hS := hS.trans hE (by simp)
        refine wpList_nil ⟨hS, ?_⟩
        refine d_pure hK 9 rfl (by kernel_rfl) (by kernel_rfl) (by kernel_rfl) rfl rfl rfl hS (fun _ _ _ h => h) rfl fun a hK => ?_
        refine d_done (by kernel_rfl) ?_
        refine (nm_then ?_)
        refine c_cond (b := !x44) hK rfl (fun hb48 => ?_) (fun hb48 => ?_)
        · have h := bif_t hb48 h
          refine wp_seq ?_
          refine wp_region_lit ?_
          refine s1 hK rfl rfl rfl rfl fun a hK => ?_
          refine wpList_nil (nm_then ?_)
          refine wp_ret (rt_block (rt_then (rt_then (rt_block (rt_then ?_)))))
          have h := Option.some.inj h
          subst h
          exact finR1 hK rfl (RV.tmp hK rfl) ⟨rfl, hM.ext⟩
        · have h := bif_f hb48 h
          refine wp_skip (nm_block (nm_then ?_))
          refine wp_region_lit ?_
          iterate 3 (refine s1 hK rfl rfl rfl rfl fun a hK => ?_)
          refine wpList_nil (nm_then ?_)
          exact ⟨w64 (i36 + 1), hK.keep [0, 1, 5] rfl, hM.sel [] rfl (by decide), h⟩
      · have h := bif_f hb38 h
        refine wp_exit (ex_then (ex_then (ex_same (nm_then ?_))))
        refine wp_seq ?_
        refine wp_region_lit ?_
        refine s1 hK rfl rfl rfl rfl fun a hK => ?_
        refine wpList_nil (nm_then ?_)
        refine wp_ret ?_
        have h := Option.some.inj h
        subst h
        exact finR1 hK rfl (RV.tmp hK rfl) ⟨rfl, hM.ext⟩
    · exact ⟨0, hK.keep [0, 1, 5] rfl, hM.sel [] rfl (by decide), h⟩

theorem c_laws_FnExactDeepest (fu : Nat) {w0 : World} (aList1 : List Box) {v2 : Value} {F3 : List Nat} (hp4 : rd w0 F3 [v2] aList1) {r : Bool}
    (h : d_laws_FnExactDeepest fu aList1 = some r) :
    Calls Try.prog 5 #[v2] w0 fun e w => e = .returned (.bool (r)) ∧ Ext [] w0 w := by
  refine enter (vs := [_]) Try.func5 rfl Try.ntmps5 rfl fun a hK => ?_
  have hM := St.start w0
  unfold d_laws_FnExactDeepest at h
  refine wp_seq ?_
  refine wp_region_lit ?_
  refine s1 hK rfl rfl rfl rfl fun a hK => ?_
  refine wpList_nil (nm_then ?_)
  refine wp_seq ?_
  refine wp_region_lit ?_
  refine s1 hK rfl rfl rfl rfl fun a hK => ?_
  refine wpList_nil (nm_then ?_)
  refine wp_seq ?_
  refine wp_region_lit ?_
  iterate 2 (refine s1 hK rfl rfl rfl rfl fun a hK => ?_)
  obtain ⟨x5, hx6, h⟩ := obind_some h
  refine s_call hK Try.call12 rfl rfl rfl rfl rfl (c_laws_szBoxS fu _ _ (Enc.rd_agr hp4 (hM.a00 (Enc.rd_lt hp4))) hx6) fun e7 w8 hR => ?_
  obtain ⟨rfl, hE⟩ := hR
  refine ⟨_, rfl, fun a hK => ?_⟩
  have hM := hM.step hE
  refine s1 hK rfl rfl rfl rfl fun a hK => ?_
  refine wpList_nil (nm_then ?_)
  refine wp_seq ?_
  refine wp_seq ?_
  refine wp_region_lit ?_
  iterate 2 (refine s1 hK rfl rfl rfl rfl fun a hK => ?_)
  refine wpList_nil (nm_then ?_)
  refine c_cond (b := decide (x5 < 0)) hK rfl (fun hb9 => ?_) (fun hb9 => ?_)
  · have h := bif_t hb9 h
    refine wp_seq ?_
    refine wp_region_lit ?_
    refine s1 hK rfl rfl rfl rfl fun a hK => ?_
    refine wpList_nil (nm_then ?_)
    refine wp_ret (rt_then ?_)
    have h := Option.some.inj h
    subst h
    exact finR1 hK rfl (RV.tmp hK rfl) ⟨rfl, hM.ext⟩
  · have h := bif_f hb9 h
    refine wp_skip (nm_then ?_)
    refine wp_seq ?_
    refine wp_region_lit ?_
    refine s1 hK rfl rfl rfl rfl fun a hK => ?_
    obtain ⟨x10, hx11, h⟩ := obind_some h
    refine s_call hK Try.call14 rfl rfl rfl rfl rfl (c_laws_toBoxS fu _ (Enc.rd_agr hp4 (hM.a00 (Enc.rd_lt hp4))) hx11) fun e12 w13 hR => ?_
    obtain ⟨v18, F14, rfl, hE, hf15, hfr16⟩ := hR
    refine ⟨_, rfl, fun a hK => ?_⟩
    have hM := hM.new hE F14 (fun b hb => ⟨hfr16 b hb, Enc.rd_lt (Enc.ow_rd hf15) b hb⟩) (Enc.ow_nd hf15)
    obtain ⟨x19, hx20, h⟩ := obind_some h
    refine s_call hK Try.call13 rfl rfl rfl rfl rfl (c_spec_Deepest fu _ (Enc.rd_agr (Enc.ow_rd hf15) (hM.a 0 rfl)) hx20) fun e21 w22 hR => ?_
    obtain ⟨rfl, hE⟩ := hR
    refine ⟨_, rfl, fun a hK => ?_⟩
    have hM := hM.step hE
    refine s1 hK rfl rfl rfl rfl fun a hK => ?_
    refine wpList_nil (nm_then ?_)
    refine wp_seq ?_
    refine wp_region_lit ?_
    refine s1 hK rfl rfl rfl rfl fun a hK => ?_
    obtain ⟨x23, hx24, h⟩ := obind_some h
    refine s_call hK Try.call14 rfl rfl rfl rfl rfl (c_laws_toBoxS fu _ (Enc.rd_agr hp4 (hM.a00 (Enc.rd_lt hp4))) hx24) fun e25 w26 hR => ?_
    obtain ⟨v31, F27, rfl, hE, hf28, hfr29⟩ := hR
    refine ⟨_, rfl, fun a hK => ?_⟩
    have hM := hM.new hE F27 (fun b hb => ⟨hfr29 b hb, Enc.rd_lt (Enc.ow_rd hf28) b hb⟩) (Enc.ow_nd hf28)
    refine s1 hK rfl rfl rfl rfl fun a hK => ?_
    refine wpList_nil (nm_then ?_)
    refine wp_seq ?_
    refine wp_region_lit ?_
    refine s1 hK rfl rfl rfl rfl fun a hK => ?_
    obtain ⟨x32, hx33, h⟩ := obind_some h
    refine s_call hK Try.call15 rfl rfl rfl rfl rfl (c_impl_Deepest fu _ (Enc.rd_agr (Enc.ow_rd hf28) (hM.a 0 rfl)) hx33) fun e34 w35 hR => ?_
    obtain ⟨rfl, hE⟩ := hR
    refine ⟨_, rfl, fun a hK => ?_⟩
    have hM := hM.step hE
    refine s1 hK rfl rfl rfl rfl fun a hK => ?_
    refine wpList_nil (nm_then ?_)
    refine wp_seq ?_
    refine wp_seq ?_
    refine wp_region_lit ?_
    iterate 3 (refine s1 hK rfl rfl rfl rfl fun a hK => ?_)
    refine wpList_nil (nm_then ?_)
    refine c_cond (b := x32 != x19) hK rfl (fun hb36 => ?_) (fun hb36 => ?_)
    · have h := bif_t hb36 h
      refine wp_seq ?_
      refine wp_region_lit ?_
      refine s1 hK rfl rfl rfl rfl fun a hK => ?_
      refine wpList_nil (nm_then ?_)
      refine wp_ret (rt_then ?_)
      have h := Option.some.inj h
      subst h
      exact finR1 hK rfl (RV.tmp hK rfl) ⟨rfl, hM.ext⟩
    · have h := bif_f hb36 h
      refine wp_skip (nm_then ?_)
      refine wp_seq ?_
      refine wp_seq ?_
      refine wp_region_lit ?_
      iterate 2 (refine s1 hK rfl rfl rfl rfl fun a hK => ?_)
      obtain ⟨x37, hx38, h⟩ := obind_some h
      refine s_call hK Try.call14 rfl rfl rfl rfl rfl (c_laws_toBoxS fu _ (Enc.rd_agr hp4 (hM.a00 (Enc.rd_lt hp4))) hx38) fun e39 w40 hR => ?_
      obtain ⟨v45, F41, rfl, hE, hf42, hfr43⟩ := hR
      refine ⟨_, rfl, fun a hK => ?_⟩
      have hM := hM.new hE F41 (fun b hb => ⟨hfr43 b hb, Enc.rd_lt (Enc.ow_rd hf42) b hb⟩) (Enc.ow_nd hf42)
      obtain ⟨x46, hx47, h⟩ := obind_some h
      refine s_call hK Try.call16 rfl rfl rfl rfl rfl (c_laws_eqBoxS fu _ _ (Enc.rd_agr (Enc.ow_rd hf28) (hM.a 1 rfl)) (Enc.rd_agr (Enc.ow_rd hf42) (hM.a 0 rfl)) hx47) fun e48 w49 hR => ?_
      obtain ⟨rfl, hE⟩ := hR
      refine ⟨_, rfl, fun a hK => ?_⟩
      have hM := hM.step hE
      refine s1 hK rfl rfl rfl rfl fun a hK => ?_
      refine wpList_nil (nm_then ?_)
      refine c_cond (b := !x46) hK rfl (fun hb50 => ?_) (fun hb50 => ?_)
      · have h := bif_t hb50 h
        refine wp_seq ?_
        refine wp_region_lit ?_
        refine s1 hK rfl rfl rfl rfl fun a hK => ?_
        refine wpList_nil (nm_then ?_)
        refine wp_ret (rt_then ?_)
        have h := Option.some.inj h
        subst h
        exact finR1 hK rfl (RV.tmp hK rfl) ⟨rfl, hM.ext⟩
      · have h := bif_f hb50 h
        refine wp_skip (nm_then ?_)
        refine wp_seq ?_
        refine wp_region_lit ?_
        refine s1 hK rfl rfl rfl rfl fun a hK => ?_
        refine wpList_nil (nm_then ?_)
        refine wp_ret ?_
        have h := Option.some.inj h
        subst h
        exact finR1 hK rfl (RV.tmp hK rfl) ⟨rfl, hM.ext⟩

end Go.Proofs.Ytfhmhbcnijlfaaa
