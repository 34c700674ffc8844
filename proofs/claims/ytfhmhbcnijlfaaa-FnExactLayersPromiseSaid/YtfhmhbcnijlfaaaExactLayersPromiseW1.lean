/- FnExactLayersPromise: the walks of functions that the law reaches, part 1. Printed by gen.py. -/
import Derived.Test.YtfhmhbcnijlfaaaD0
import Derived.Test.YtfhmhbcnijlfaaaProg
set_option maxRecDepth 20000
set_option linter.unusedVariables false
namespace Go.Proofs.Ytfhmhbcnijlfaaa
open Go Go.RowKit
open Enc (rd ow)
open Arg (argv)
open Ret (retv)

theorem mixo : Try.prog.follows .mixedOrders = true := by kernel_rfl
theorem fa34_0 : FA Try.prog 34 0 0 := fa_of (n := 0) Try.underlying34 rfl rfl Try.sizeOf3
theorem t13 : T1 Try.prog 3 := ⟨fun w => by simp [isAgg, run_underlying Try.underlying3], Try.sizeOf3⟩
theorem fa36_0 : FA Try.prog 36 0 0 := fa_of (n := 0) Try.underlying36 rfl rfl Try.sizeOf3
theorem fa34_1 : FA Try.prog 34 1 1 := fa_of (n := 0) Try.underlying34 rfl rfl Try.sizeOf3
theorem fa36_1 : FA Try.prog 36 1 1 := fa_of (n := 0) Try.underlying36 rfl rfl Try.sizeOf3
theorem fa34_2 : FA Try.prog 34 2 2 := fa_of (n := 0) Try.underlying34 rfl rfl Try.sizeOf3
theorem fa36_2 : FA Try.prog 36 2 2 := fa_of (n := 0) Try.underlying36 rfl rfl Try.sizeOf3
theorem fa34_3 : FA Try.prog 34 3 3 := fa_of (n := 0) Try.underlying34 rfl rfl Try.sizeOf3
theorem fa36_3 : FA Try.prog 36 3 3 := fa_of (n := 0) Try.underlying36 rfl rfl Try.sizeOf3
theorem ta36 : TA Try.prog 36 4 := ⟨Try.isAgg36, Try.sizeOf36⟩
theorem fa46_0 : FA Try.prog 46 0 0 := fa_of (n := 0) Try.underlying46 rfl rfl Try.sizeOf3
theorem fa44_0 : FA Try.prog 44 0 0 := fa_of (n := 0) Try.underlying44 rfl rfl Try.sizeOf3
theorem fa46_1 : FA Try.prog 46 1 1 := fa_of (n := 0) Try.underlying46 rfl rfl Try.sizeOf3
theorem fa44_1 : FA Try.prog 44 1 1 := fa_of (n := 0) Try.underlying44 rfl rfl Try.sizeOf3
theorem fa46_2 : FA Try.prog 46 2 2 := fa_of (n := 0) Try.underlying46 rfl rfl Try.sizeOf3
theorem fa44_2 : FA Try.prog 44 2 2 := fa_of (n := 0) Try.underlying44 rfl rfl Try.sizeOf3
theorem fa46_3 : FA Try.prog 46 3 3 := fa_of (n := 0) Try.underlying46 rfl rfl Try.sizeOf3
theorem fa44_3 : FA Try.prog 44 3 3 := fa_of (n := 0) Try.underlying44 rfl rfl Try.sizeOf3
theorem ta44 : TA Try.prog 44 4 := ⟨Try.isAgg44, Try.sizeOf44⟩
theorem te29 : TE Try.prog 29 4 32 [.int .i64 0, .int .i64 0, .int .i64 0, .int .i64 0] := ⟨44, Try.t44, Try.underlying29, Try.type44, ⟨_, rfl, rfl⟩, rfl, rfl, rfl, by decide⟩
theorem ts26 : TS Try.prog 26 4 := ⟨46, Try.underlying26, Try.sizeOf46⟩
theorem ta46 : TA Try.prog 46 4 := ⟨Try.isAgg46, Try.sizeOf46⟩
theorem ts29 : TS Try.prog 29 4 := ⟨44, Try.underlying29, Try.sizeOf44⟩
theorem ta34 : TA Try.prog 34 4 := ⟨Try.isAgg34, Try.sizeOf34⟩

def d_laws_szBoxS (fu : Nat) (a1 : List Box) (left5 : Int) : Option (Int) :=
  bif (decide ((w64 (left5 - ((a1.length : Int)))) < 0)) then some ((-1)) else some (w64 (left5 - ((a1.length : Int))))

def d_laws_toPallet (fu : Nat) (a1 : Pallet) : Option (Pallet) :=
  some (a1)

def d_laws_toBox (fu : Nat) (a1 : Box) : Option (Box) :=
  some (a1)

def d_laws_toBoxS_L1_B (fu : Nat)  (a1 : List Box) (k1 : List Box → Int → Option ((List Box))) (out42 : List Box) (i47 : Int) : Option ((List Box)) :=
  bif (decide (i47 < ((a1.length : Int)))) then obind (ix a1 i47) fun x50 => obind (d_laws_toBox fu x50) fun x52 => obind (ix out42 i47) fun x56 => k1 (setx out42 i47 x52) (w64 (i47 + 1)) else some (out42)
def d_laws_toBoxS_L1 (fu : Nat)  (a1 : List Box) : Nat → List Box → Int → Option ((List Box))
  | 0 => fun _ _ => none
  | n + 1 => d_laws_toBoxS_L1_B fu a1 (d_laws_toBoxS_L1 fu a1 n)
theorem d_laws_toBoxS_L1_s (fu : Nat)  (a1 : List Box) (n : Nat) : d_laws_toBoxS_L1 fu a1 (n + 1) = d_laws_toBoxS_L1_B fu a1 (d_laws_toBoxS_L1 fu a1 n) := rfl

def d_laws_toBoxS (fu : Nat) (a1 : List Box) : Option ((List Box)) :=
  obind (mk 32 (⟨(0 : Int), (0 : Int), (0 : Int), (0 : Int)⟩ : Box) ((a1.length : Int))) fun x5 => d_laws_toBoxS_L1 fu a1 fu x5 0

def d_spec_l1In (fu : Nat) (x1 : Int) (lo2 : Int) (hi3 : Int) : Option (Bool) :=
  bif (decide (x1 ≥ lo2)) then some (decide (x1 ≤ hi3)) else some (false)

def d_spec_l2Side (fu : Nat) (x1 : Int) : Option (Bool) :=
  obind (d_spec_l1In fu x1 1 2000) fun x2 => some (x2)

def d_spec_PalletOk (fu : Nat) (x1 : Pallet) : Option (Bool) :=
  obind (d_spec_l2Side fu x1.fW) fun x5 => bif x5 then obind (d_spec_l2Side fu x1.fD) fun x10 => bif x10 then obind (d_spec_l2Side fu x1.fH) fun x15 => bif x15 then obind (d_spec_l1In fu x1.fGram 1 100000) fun x20 => some (x20) else some (false) else some (false) else some (false)

def d_spec_BoxesOk_J4 (fu : Nat) (k3 : Int → Option (Bool)) (i162 : Int)  : Option (Bool) :=
  k3 (w64 (i162 + 1))

def d_spec_BoxesOk_L3_B (fu : Nat)  (p1 : Pallet) (list2 : List Box) (k3 : Int → Option (Bool)) (i162 : Int) : Option (Bool) :=
  bif (decide (i162 < ((list2.length : Int)))) then obind (ix list2 i162) fun x209 => obind (d_spec_l1In fu x209.fW 1 p1.fW) fun x216 => bif (!x216) then some (false) else obind (d_spec_l1In fu x209.fD 1 p1.fD) fun x221 => bif (!x221) then some (false) else obind (d_spec_l1In fu x209.fH 1 p1.fH) fun x226 => bif (!x226) then some (false) else obind (d_spec_l1In fu x209.fGram 1 p1.fGram) fun x231 => bif (!x231) then some (false) else d_spec_BoxesOk_J4 fu k3 i162 else some (true)
def d_spec_BoxesOk_L3 (fu : Nat)  (p1 : Pallet) (list2 : List Box) : Nat → Int → Option (Bool)
  | 0 => fun _ => none
  | n + 1 => d_spec_BoxesOk_L3_B fu p1 list2 (d_spec_BoxesOk_L3 fu p1 list2 n)
theorem d_spec_BoxesOk_L3_s (fu : Nat)  (p1 : Pallet) (list2 : List Box) (n : Nat) : d_spec_BoxesOk_L3 fu p1 list2 (n + 1) = d_spec_BoxesOk_L3_B fu p1 list2 (d_spec_BoxesOk_L3 fu p1 list2 n) := rfl

def d_spec_BoxesOk (fu : Nat) (p1 : Pallet) (list2 : List Box) : Option (Bool) :=
  obind (d_spec_PalletOk fu p1) fun x9 => bif (!x9) then some (false) else d_spec_BoxesOk_L3 fu p1 list2 fu 0

def d_spec_LayersPromise_J1 (fu : Nat) (n6 : Int)  : Option (Int) :=
  some (w64 ((w64 (4 * n6)) + 1))

def d_spec_LayersPromise (fu : Nat) (p1 : Pallet) (list2 : List Box) (n6 : Int) : Option (Int) :=
  obind (d_spec_BoxesOk fu p1 list2) fun x21 => bif (!x21) then some (0) else obind (d_spec_l1In fu n6 0 1000) fun x26 => bif (!x26) then some (0) else d_spec_LayersPromise_J1 fu n6

def d_impl_in (fu : Nat) (n1 : Int) (lo2 : Int) (hi3 : Int) : Option (Bool) :=
  bif (decide (n1 ≥ lo2)) then some (decide (n1 ≤ hi3)) else some (false)

def d_impl_isSide (fu : Nat) (n1 : Int) : Option (Bool) :=
  obind (d_impl_in fu n1 1 2000) fun x2 => some (x2)

def d_impl_PalletOk (fu : Nat) (x1 : Pallet) : Option (Bool) :=
  obind (d_impl_isSide fu x1.fW) fun x5 => bif x5 then obind (d_impl_isSide fu x1.fD) fun x10 => bif x10 then obind (d_impl_isSide fu x1.fH) fun x15 => bif x15 then obind (d_impl_in fu x1.fGram 1 100000) fun x20 => some (x20) else some (false) else some (false) else some (false)

def d_impl_BoxesOk_1 (fu : Nat) (b1 : Box) (x2 : Pallet) : Option (Bool) :=
  obind (d_impl_in fu b1.fW 1 x2.fW) fun x8 => bif (!x8) then some (true) else obind (d_impl_in fu b1.fD 1 x2.fD) fun x13 => bif (!x13) then some (true) else obind (d_impl_in fu b1.fH 1 x2.fH) fun x18 => bif (!x18) then some (true) else obind (d_impl_in fu b1.fGram 1 x2.fGram) fun x23 => some (!x23)

def d_slices_IndexFunc_impl_Box_impl_Box_L1_B (fu : Nat)  (sv1 : List Box) (f5 : Box → Option Bool) (k1 : Int → Option (Int)) (x32 : Int) : Option (Int) :=
  bif (decide (x32 < ((sv1.length : Int)))) then obind (ix sv1 x32) fun x35 => obind (f5 x35) fun x37 => bif x37 then some (x32) else k1 (w64 (x32 + 1)) else some ((-1))
def d_slices_IndexFunc_impl_Box_impl_Box_L1 (fu : Nat)  (sv1 : List Box) (f5 : Box → Option Bool) : Nat → Int → Option (Int)
  | 0 => fun _ => none
  | n + 1 => d_slices_IndexFunc_impl_Box_impl_Box_L1_B fu sv1 f5 (d_slices_IndexFunc_impl_Box_impl_Box_L1 fu sv1 f5 n)
theorem d_slices_IndexFunc_impl_Box_impl_Box_L1_s (fu : Nat)  (sv1 : List Box) (f5 : Box → Option Bool) (n : Nat) : d_slices_IndexFunc_impl_Box_impl_Box_L1 fu sv1 f5 (n + 1) = d_slices_IndexFunc_impl_Box_impl_Box_L1_B fu sv1 f5 (d_slices_IndexFunc_impl_Box_impl_Box_L1 fu sv1 f5 n) := rfl

def d_slices_IndexFunc_impl_Box_impl_Box (fu : Nat) (sv1 : List Box) (f5 : Box → Option Bool) : Option (Int) :=
  d_slices_IndexFunc_impl_Box_impl_Box_L1 fu sv1 f5 fu 0

def d_slices_ContainsFunc_impl_Box_impl_Box (fu : Nat) (sv1 : List Box) (f5 : Box → Option Bool) : Option (Bool) :=
  obind (d_slices_IndexFunc_impl_Box_impl_Box fu sv1 f5) fun x14 => some (decide (x14 ≥ 0))

def d_impl_BoxesOk (fu : Nat) (p1 : Pallet) (list2 : List Box) : Option (Bool) :=
  obind (d_impl_PalletOk fu p1) fun x9 => bif x9 then obind (d_slices_ContainsFunc_impl_Box_impl_Box fu list2 (fun y14 => d_impl_BoxesOk_1 fu y14 p1)) fun x17 => some (!x17) else some (false)

def d_impl_LayersPromise_J1 (fu : Nat) (n6 : Int)  : Option (Int) :=
  some (w64 ((w64 (4 * n6)) + 1))

def d_impl_LayersPromise (fu : Nat) (p1 : Pallet) (list2 : List Box) (n6 : Int) : Option (Int) :=
  obind (d_impl_BoxesOk fu p1 list2) fun x21 => bif (!x21) then some (0) else obind (d_impl_in fu n6 0 1000) fun x26 => bif (!x26) then some (0) else d_impl_LayersPromise_J1 fu n6

def d_laws_eqBox (fu : Nat) (a1 : Box) (b2 : Box) : Option (Bool) :=
  bif (a1.fW != b2.fW) then some (false) else bif (a1.fD != b2.fD) then some (false) else bif (a1.fH != b2.fH) then some (false) else bif (a1.fGram != b2.fGram) then some (false) else some (true)

def d_laws_eqBoxS_L1_B (fu : Nat)  (a1 : List Box) (b5 : List Box) (k1 : Int → Option (Bool)) (i36 : Int) : Option (Bool) :=
  bif (decide (i36 < ((a1.length : Int)))) then obind (ix a1 i36) fun x40 => obind (ix b5 i36) fun x42 => obind (d_laws_eqBox fu x40 x42) fun x44 => bif (!x44) then some (false) else k1 (w64 (i36 + 1)) else some (true)
def d_laws_eqBoxS_L1 (fu : Nat)  (a1 : List Box) (b5 : List Box) : Nat → Int → Option (Bool)
  | 0 => fun _ => none
  | n + 1 => d_laws_eqBoxS_L1_B fu a1 b5 (d_laws_eqBoxS_L1 fu a1 b5 n)
theorem d_laws_eqBoxS_L1_s (fu : Nat)  (a1 : List Box) (b5 : List Box) (n : Nat) : d_laws_eqBoxS_L1 fu a1 b5 (n + 1) = d_laws_eqBoxS_L1_B fu a1 b5 (d_laws_eqBoxS_L1 fu a1 b5 n) := rfl

def d_laws_eqBoxS (fu : Nat) (a1 : List Box) (b5 : List Box) : Option (Bool) :=
  bif (((a1.length : Int)) != ((b5.length : Int))) then some (false) else d_laws_eqBoxS_L1 fu a1 b5 fu 0

def d_laws_FnExactLayersPromise (fu : Nat) (aP1 : Pallet) (aList2 : List Box) (aN6 : Int) : Option (Bool) :=
  obind (d_laws_szBoxS fu aList2 1048576) fun x10 => bif (decide (x10 < 0)) then some (true) else obind (d_laws_toPallet fu aP1) fun x15 => obind (d_laws_toBoxS fu aList2) fun x19 => obind (d_spec_LayersPromise fu x15 x19 aN6) fun x28 => obind (d_laws_toBoxS fu aList2) fun x32 => obind (d_laws_toPallet fu aP1) fun x41 => obind (d_impl_LayersPromise fu x41 x32 aN6) fun x45 => bif (x45 != x28) then some (false) else obind (d_laws_toBoxS fu aList2) fun x50 => obind (d_laws_eqBoxS fu x32 x50) fun x59 => bif (!x59) then some (false) else some (true)

theorem c_laws_szBoxS (fu : Nat) {w0 : World} (a1 : List Box) (left5 : Int) {v2 : Value} {F3 : List Nat} (hp4 : rd w0 F3 [v2] a1) {r : Int}
    (h : d_laws_szBoxS fu a1 left5 = some r) :
    Calls Try.prog 12 #[v2, .int .i64 (left5)] w0 fun e w => e = .returned (.int .i64 (r)) ∧ Ext [] w0 w := by
  refine enter (vs := [_, _]) Try.func12 rfl Try.ntmps12 rfl fun a hK => ?_
  have hM := St.start w0
  unfold d_laws_szBoxS at h
  refine wp_seq ?_
  refine wp_region_lit ?_
  refine s1 hK rfl rfl rfl rfl fun a hK => ?_
  refine wpList_nil (nm_then ?_)
  refine wp_seq ?_
  refine wp_region_lit ?_
  iterate 2 (refine s1 hK rfl rfl rfl rfl fun a hK => ?_)
  refine s_val hK rfl rfl rfl (r_len (α := Box) hp4 hK Try.underlying26 rfl rfl) fun a hK => ?_
  iterate 2 (refine s1 hK rfl rfl rfl rfl fun a hK => ?_)
  refine wpList_nil (nm_then ?_)
  refine wp_seq ?_
  refine wp_seq ?_
  refine wp_region_lit ?_
  iterate 2 (refine s1 hK rfl rfl rfl rfl fun a hK => ?_)
  refine wpList_nil (nm_then ?_)
  refine c_cond (b := decide ((w64 (left5 - ((a1.length : Int)))) < 0)) hK rfl (fun hb6 => ?_) (fun hb6 => ?_)
  · have h := bif_t hb6 h
    refine wp_seq ?_
    refine wp_region_lit ?_
    refine s1 hK rfl rfl rfl rfl fun a hK => ?_
    refine wpList_nil (nm_then ?_)
    refine wp_ret (rt_then ?_)
    have h := Option.some.inj h
    subst h
    exact finR1 hK rfl (RV.tmp hK rfl) ⟨rfl, hM.ext⟩
  · have h := bif_f hb6 h
    refine wp_skip (nm_then ?_)
    refine wp_seq ?_
    refine wp_region_lit ?_
    iterate 2 (refine s1 hK rfl rfl rfl rfl fun a hK => ?_)
    refine wpList_nil (nm_then ?_)
    refine wp_ret ?_
    have h := Option.some.inj h
    subst h
    exact finR1 hK rfl (RV.tmp hK rfl) ⟨rfl, hM.ext⟩

theorem c_laws_toPallet (fu : Nat) {w0 : World} (a1 : Pallet)  {r : Pallet}
    (h : d_laws_toPallet fu a1 = some r) :
    Calls Try.prog 18 #[.agg (Flat.e (a1)).toArray] w0 fun e w => e = .returned (.agg (Flat.e r).toArray) ∧ Ext [] w0 w := by
  refine enter (vs := [_]) Try.func18 rfl Try.ntmps18 rfl fun a hK => ?_
  have hM := St.start w0
  unfold d_laws_toPallet at h
  refine wp_seq ?_
  refine wp_region_lit ?_
  refine s_box (cs := [.int .i64 (a1.fW), .int .i64 (a1.fD), .int .i64 (a1.fH), .int .i64 (a1.fGram)]) hM hK rfl rfl rfl rfl rfl rfl fun b2 w4 a hK hM hE hb3 => ?_
  refine s_alloc (cs := [.int .i64 (0), .int .i64 (0), .int .i64 (0), .int .i64 (0)]) hM hK Try.zeroValue36 rfl rfl rfl rfl rfl fun b5 w7 a hK hM hE hb6 => ?_
  refine wpList_nil (nm_then ?_)
  refine wp_seq ?_
  refine wp_region_lit ?_
  refine s_alloc (cs := [.int .i64 (0), .int .i64 (0), .int .i64 (0), .int .i64 (0)]) hM hK Try.zeroValue36 rfl rfl rfl rfl rfl fun b8 w10 a hK hM hE hb9 => ?_
  refine wpList_nil (nm_then ?_)
  refine wp_seq ?_
  refine wp_region_lit ?_
  refine s_val hK rfl rfl rfl (r_fa fa34_0 hK rfl rfl) fun a hK => ?_
  refine s_val hK rfl rfl rfl (r_ldb t13 hM 2 hb3 0 hK rfl rfl rfl rfl rfl) fun a hK => ?_
  refine s_val hK rfl rfl rfl (r_fa fa36_0 hK rfl rfl) fun a hK => ?_
  refine s_stb (cs' := [.int .i64 (a1.fW), .int .i64 (0), .int .i64 (0), .int .i64 (0)]) Try.sizeOf3 hM 0 hb9 0 hK rfl rfl rfl rfl rfl rfl rfl rfl rfl rfl rfl fun w11 a hK hE hM hb12 => ?_
  refine wpList_nil (nm_then ?_)
  refine wp_seq ?_
  refine wp_region_lit ?_
  refine s_val hK rfl rfl rfl (r_fa fa34_1 hK rfl rfl) fun a hK => ?_
  refine s_val hK rfl rfl rfl (r_ldb t13 hM 2 hb3 1 hK rfl rfl rfl rfl rfl) fun a hK => ?_
  refine s_val hK rfl rfl rfl (r_fa fa36_1 hK rfl rfl) fun a hK => ?_
  refine s_stb (cs' := [.int .i64 (a1.fW), .int .i64 (a1.fD), .int .i64 (0), .int .i64 (0)]) Try.sizeOf3 hM 0 hb12 1 hK rfl rfl rfl rfl rfl rfl rfl rfl rfl rfl rfl fun w13 a hK hE hM hb14 => ?_
  refine wpList_nil (nm_then ?_)
  refine wp_seq ?_
  refine wp_region_lit ?_
  refine s_val hK rfl rfl rfl (r_fa fa34_2 hK rfl rfl) fun a hK => ?_
  refine s_val hK rfl rfl rfl (r_ldb t13 hM 2 hb3 2 hK rfl rfl rfl rfl rfl) fun a hK => ?_
  refine s_val hK rfl rfl rfl (r_fa fa36_2 hK rfl rfl) fun a hK => ?_
  refine s_stb (cs' := [.int .i64 (a1.fW), .int .i64 (a1.fD), .int .i64 (a1.fH), .int .i64 (0)]) Try.sizeOf3 hM 0 hb14 2 hK rfl rfl rfl rfl rfl rfl rfl rfl rfl rfl rfl fun w15 a hK hE hM hb16 => ?_
  refine wpList_nil (nm_then ?_)
  refine wp_seq ?_
  refine wp_region_lit ?_
  refine s_val hK rfl rfl rfl (r_fa fa34_3 hK rfl rfl) fun a hK => ?_
  refine s_val hK rfl rfl rfl (r_ldb t13 hM 2 hb3 3 hK rfl rfl rfl rfl rfl) fun a hK => ?_
  refine s_val hK rfl rfl rfl (r_fa fa36_3 hK rfl rfl) fun a hK => ?_
  refine s_stb (cs' := [.int .i64 (a1.fW), .int .i64 (a1.fD), .int .i64 (a1.fH), .int .i64 (a1.fGram)]) Try.sizeOf3 hM 0 hb16 3 hK rfl rfl rfl rfl rfl rfl rfl rfl rfl rfl rfl fun w17 a hK hE hM hb18 => ?_
  refine wpList_nil (nm_then ?_)
  refine wp_seq ?_
  refine wp_region_lit ?_
  refine s_val hK rfl rfl rfl (r_ldB ta36 hM 0 hb18 0 hK rfl rfl rfl rfl rfl rfl) fun a hK => ?_
  refine s_stb (cs' := [.int .i64 (a1.fW), .int .i64 (a1.fD), .int .i64 (a1.fH), .int .i64 (a1.fGram)]) Try.sizeOf36 hM 1 hb6 0 hK rfl rfl rfl rfl rfl rfl rfl rfl rfl rfl rfl fun w19 a hK hE hM hb20 => ?_
  refine wpList_nil (nm_then ?_)
  refine wp_ret ?_
  have h := Option.some.inj h
  subst h
  exact finR1 hK rfl (RV.cA hK rfl ta36 (hb20.at (hM.a 1 rfl) 0 4 rfl rfl rfl) rfl) ⟨rfl, hM.ext⟩

theorem c_laws_toBox (fu : Nat) {w0 : World} (a1 : Box)  {r : Box}
    (h : d_laws_toBox fu a1 = some r) :
    Calls Try.prog 25 #[.agg (Flat.e (a1)).toArray] w0 fun e w => e = .returned (.agg (Flat.e r).toArray) ∧ Ext [] w0 w := by
  refine enter (vs := [_]) Try.func25 rfl Try.ntmps25 rfl fun a hK => ?_
  have hM := St.start w0
  unfold d_laws_toBox at h
  refine wp_seq ?_
  refine wp_region_lit ?_
  refine s_box (cs := [.int .i64 (a1.fW), .int .i64 (a1.fD), .int .i64 (a1.fH), .int .i64 (a1.fGram)]) hM hK rfl rfl rfl rfl rfl rfl fun b2 w4 a hK hM hE hb3 => ?_
  refine s_alloc (cs := [.int .i64 (0), .int .i64 (0), .int .i64 (0), .int .i64 (0)]) hM hK Try.zeroValue44 rfl rfl rfl rfl rfl fun b5 w7 a hK hM hE hb6 => ?_
  refine wpList_nil (nm_then ?_)
  refine wp_seq ?_
  refine wp_region_lit ?_
  refine s_alloc (cs := [.int .i64 (0), .int .i64 (0), .int .i64 (0), .int .i64 (0)]) hM hK Try.zeroValue44 rfl rfl rfl rfl rfl fun b8 w10 a hK hM hE hb9 => ?_
  refine wpList_nil (nm_then ?_)
  refine wp_seq ?_
  refine wp_region_lit ?_
  refine s_val hK rfl rfl rfl (r_fa fa46_0 hK rfl rfl) fun a hK => ?_
  refine s_val hK rfl rfl rfl (r_ldb t13 hM 2 hb3 0 hK rfl rfl rfl rfl rfl) fun a hK => ?_
  refine s_val hK rfl rfl rfl (r_fa fa44_0 hK rfl rfl) fun a hK => ?_
  refine s_stb (cs' := [.int .i64 (a1.fW), .int .i64 (0), .int .i64 (0), .int .i64 (0)]) Try.sizeOf3 hM 0 hb9 0 hK rfl rfl rfl rfl rfl rfl rfl rfl rfl rfl rfl fun w11 a hK hE hM hb12 => ?_
  refine wpList_nil (nm_then ?_)
  refine wp_seq ?_
  refine wp_region_lit ?_
  refine s_val hK rfl rfl rfl (r_fa fa46_1 hK rfl rfl) fun a hK => ?_
  refine s_val hK rfl rfl rfl (r_ldb t13 hM 2 hb3 1 hK rfl rfl rfl rfl rfl) fun a hK => ?_
  refine s_val hK rfl rfl rfl (r_fa fa44_1 hK rfl rfl) fun a hK => ?_
  refine s_stb (cs' := [.int .i64 (a1.fW), .int .i64 (a1.fD), .int .i64 (0), .int .i64 (0)]) Try.sizeOf3 hM 0 hb12 1 hK rfl rfl rfl rfl rfl rfl rfl rfl rfl rfl rfl fun w13 a hK hE hM hb14 => ?_
  refine wpList_nil (nm_then ?_)
  refine wp_seq ?_
  refine wp_region_lit ?_
  refine s_val hK rfl rfl rfl (r_fa fa46_2 hK rfl rfl) fun a hK => ?_
  refine s_val hK rfl rfl rfl (r_ldb t13 hM 2 hb3 2 hK rfl rfl rfl rfl rfl) fun a hK => ?_
  refine s_val hK rfl rfl rfl (r_fa fa44_2 hK rfl rfl) fun a hK => ?_
  refine s_stb (cs' := [.int .i64 (a1.fW), .int .i64 (a1.fD), .int .i64 (a1.fH), .int .i64 (0)]) Try.sizeOf3 hM 0 hb14 2 hK rfl rfl rfl rfl rfl rfl rfl rfl rfl rfl rfl fun w15 a hK hE hM hb16 => ?_
  refine wpList_nil (nm_then ?_)
  refine wp_seq ?_
  refine wp_region_lit ?_
  refine s_val hK rfl rfl rfl (r_fa fa46_3 hK rfl rfl) fun a hK => ?_
  refine s_val hK rfl rfl rfl (r_ldb t13 hM 2 hb3 3 hK rfl rfl rfl rfl rfl) fun a hK => ?_
  refine s_val hK rfl rfl rfl (r_fa fa44_3 hK rfl rfl) fun a hK => ?_
  refine s_stb (cs' := [.int .i64 (a1.fW), .int .i64 (a1.fD), .int .i64 (a1.fH), .int .i64 (a1.fGram)]) Try.sizeOf3 hM 0 hb16 3 hK rfl rfl rfl rfl rfl rfl rfl rfl rfl rfl rfl fun w17 a hK hE hM hb18 => ?_
  refine wpList_nil (nm_then ?_)
  refine wp_seq ?_
  refine wp_region_lit ?_
  refine s_val hK rfl rfl rfl (r_ldB ta44 hM 0 hb18 0 hK rfl rfl rfl rfl rfl rfl) fun a hK => ?_
  refine s_stb (cs' := [.int .i64 (a1.fW), .int .i64 (a1.fD), .int .i64 (a1.fH), .int .i64 (a1.fGram)]) Try.sizeOf44 hM 1 hb6 0 hK rfl rfl rfl rfl rfl rfl rfl rfl rfl rfl rfl fun w19 a hK hE hM hb20 => ?_
  refine wpList_nil (nm_then ?_)
  refine wp_ret ?_
  have h := Option.some.inj h
  subst h
  exact finR1 hK rfl (RV.cA hK rfl ta44 (hb20.at (hM.a 1 rfl) 0 4 rfl rfl rfl) rfl) ⟨rfl, hM.ext⟩

theorem c_laws_toBoxS (fu : Nat) {w0 : World} (a1 : List Box) {v2 : Value} {F3 : List Nat} (hp4 : rd w0 F3 [v2] a1) {r : (List Box)}
    (h : d_laws_toBoxS fu a1 = some r) :
    Calls Try.prog 14 #[v2] w0 fun e w => ∃ (v0 : Value) (G0 : List Nat), e = .returned (v0) ∧ Ext [] w0 w ∧ ow w G0 [v0] r ∧ (∀ b ∈ G0, w0.heap.size ≤ b) := by
  refine enter (vs := [_]) Try.func14 rfl Try.ntmps14 rfl fun a hK => ?_
  have hM := St.start w0
  unfold d_laws_toBoxS at h
  refine wp_seq ?_
  refine wp_region_lit ?_
  refine s1 hK rfl rfl rfl rfl fun a hK => ?_
  refine wpList_nil (nm_then ?_)
  refine wp_seq ?_
  refine wp_region_lit ?_
  refine s1 hK rfl rfl rfl rfl fun a hK => ?_
  refine s_val hK rfl rfl rfl (r_len (α := Box) hp4 hK Try.underlying26 rfl rfl) fun a hK => ?_
  obtain ⟨x5, hx6, h⟩ := obind_some h
  refine s_mk hx6 te29 rfl rfl hM hK rfl rfl rfl rfl rfl rfl fun g7 w8 a v10 hK hM hE hf9 => ?_
  refine s1 hK rfl rfl rfl rfl fun a hK => ?_
  refine wpList_nil (nm_then ?_)
  refine wp_seq ?_
  refine wp_seq ?_
  refine wp_region_lit ?_
  refine s1 hK rfl rfl rfl rfl fun a hK => ?_
  refine wpList_nil (nm_then ?_)
  refine wp_block ?_
  refine c_loop (fun n a w => ∃ (out42 : List Box) (v43 : Value) (F44 : List Nat) (u45 : World) (i47 : Int), K 23 [(0, v2), (3, v43), (4, .int .i64 (i47))] a ∧ St [] w0 w [(F44, u45)] ∧ ow u45 F44 [v43] out42 ∧ d_laws_toBoxS_L1 fu a1 n out42 i47 = some r) ?_ ?_ fu _ _ ?_
  · rintro a w ⟨_, _, _, _, _, _, _, _, h⟩
    cases (show none = some _ from h)
  · rintro m48 a w41 ⟨out42, v43, F44, u45, i47, hK, hM, hf46, h⟩
    rw [d_laws_toBoxS_L1_s] at h
    unfold d_laws_toBoxS_L1_B at h
    refine wp_seq ?_
    refine wp_seq ?_
    refine wp_region_lit ?_
    iterate 2 (refine s1 hK rfl rfl rfl rfl fun a hK => ?_)
    refine s_val hK rfl rfl rfl (r_len (α := Box) hp4 hK Try.underlying26 rfl rfl) fun a hK => ?_
    refine s1 hK rfl rfl rfl rfl fun a hK => ?_
    refine wpList_nil (nm_then ?_)
    refine c_cond (b := decide (i47 < ((a1.length : Int)))) hK rfl (fun hb49 => ?_) (fun hb49 => ?_)
    · have h := bif_t hb49 h
      refine wp_skip (nm_then ?_)
      refine wp_seq ?_
      refine wp_block ?_
      refine wp_region_lit ?_
      iterate 4 (refine s1 hK rfl rfl rfl rfl fun a hK => ?_)
      obtain ⟨x50, hx51, h⟩ := obind_some h
      refine s_val hK rfl rfl rfl (r_ixa hp4 hx51 hK ts26 rfl rfl rfl) fun a hK => ?_
      refine s_val hK rfl rfl rfl (r_lde hp4 (hM.a00 (Enc.rd_lt hp4)) hx51 ta46 hK rfl rfl) fun a hK => ?_
      obtain ⟨x52, hx53, h⟩ := obind_some h
      refine s_call hK Try.call25 rfl rfl rfl rfl rfl (c_laws_toBox fu _  hx53) fun e54 w55 hR => ?_
      obtain ⟨rfl, hE⟩ := hR
      refine ⟨_, rfl, fun a hK => ?_⟩
      have hM := hM.step hE
      obtain ⟨x56, hx57, h⟩ := obind_some h
      refine s_val hK rfl rfl rfl (r_ixa (Enc.ow_rd hf46) hx57 hK ts29 rfl rfl rfl) fun a hK => ?_
      refine s_ste (α := Box) (sz := 4) (y := x52) Try.sizeOf44 hx57 hM 0 hf46 0 hK rfl rfl rfl rfl rfl rfl rfl rfl rfl rfl rfl rfl fun w58 a hK hE hM hf59 => ?_
      refine wpList_nil (nm_block (nm_then ?_))
      refine wp_region_lit ?_
      iterate 3 (refine s1 hK rfl rfl rfl rfl fun a hK => ?_)
      refine wpList_nil (nm_then ?_)
      exact ⟨setx out42 i47 x52, v43, F44, w58, w64 (i47 + 1), hK.keep [0, 3, 4] rfl, hM.sel [0] rfl (by decide), hf59, h⟩
    · have h := bif_f hb49 h
      refine wp_exit (ex_then (ex_then (ex_same (nm_then ?_))))
      refine wp_seq ?_
      refine wp_region_lit ?_
      iterate 2 (refine s1 hK rfl rfl rfl rfl fun a hK => ?_)
      refine wpList_nil (nm_then ?_)
      refine wp_ret ?_
      have h := Option.some.inj h
      subst h
      exact finR1 hK rfl (RV.tmp hK rfl) ⟨_, F44, rfl, hM.ext, (Enc.ow_agr hf46 (hM.a 0 rfl)), (hM.fresh 0 rfl)⟩
  · exact ⟨x5, v10, [g7], w8, 0, hK.keep [0, 3, 4] rfl, hM.sel [0] rfl (by decide), hf9, h⟩

theorem c_spec_l1In (fu : Nat) {w0 : World} (x1 : Int) (lo2 : Int) (hi3 : Int)  {r : Bool}
    (h : d_spec_l1In fu x1 lo2 hi3 = some r) :
    Calls Try.prog 22 #[.int .i64 (x1), .int .i64 (lo2), .int .i64 (hi3)] w0 fun e w => e = .returned (.bool (r)) ∧ Ext [] w0 w := by
  refine enter (vs := [_, _, _]) Try.func22 rfl Try.ntmps22 rfl fun a hK => ?_
  have hM := St.start w0
  unfold d_spec_l1In at h
  refine wp_seq ?_
  refine wp_region_lit ?_
  refine s1 hK rfl rfl rfl rfl fun a hK => ?_
  refine wpList_nil (nm_then ?_)
  refine wp_seq ?_
  refine wp_region_lit ?_
  iterate 4 (refine s1 hK rfl rfl rfl rfl fun a hK => ?_)
  refine bsplit (decide (x1 ≥ lo2)) (fun hb4 => ?_) (fun hb4 => ?_)
  · have h := bif_t hb4 h
    have hK := hK.re (d := 10) rfl (congrArg Value.bool hb4)
    iterate 5 (refine s1 hK rfl rfl rfl rfl fun a hK => ?_)
    refine wpList_nil (nm_then ?_)
    refine wp_ret ?_
    have h := Option.some.inj h
    subst h
    exact finR1 hK rfl (RV.tmp hK rfl) ⟨rfl, hM.ext⟩
  · have h := bif_f hb4 h
    have hK := hK.re (d := 10) rfl (congrArg Value.bool hb4)
    refine sk hK rfl rfl rfl fun a hK => ?_
    refine sk hK rfl rfl rfl fun a hK => ?_
    refine sk hK rfl rfl rfl fun a hK => ?_
    iterate 2 (refine s1 hK rfl rfl rfl rfl fun a hK => ?_)
    refine wpList_nil (nm_then ?_)
    refine wp_ret ?_
    have h := Option.some.inj h
    subst h
    exact finR1 hK rfl (RV.tmp hK rfl) ⟨rfl, hM.ext⟩

theorem c_spec_l2Side (fu : Nat) {w0 : World} (x1 : Int)  {r : Bool}
    (h : d_spec_l2Side fu x1 = some r) :
    Calls Try.prog 33 #[.int .i64 (x1)] w0 fun e w => e = .returned (.bool (r)) ∧ Ext [] w0 w := by
  refine enter (vs := [_]) Try.func33 rfl Try.ntmps33 rfl fun a hK => ?_
  have hM := St.start w0
  unfold d_spec_l2Side at h
  refine wp_seq ?_
  refine wp_region_lit ?_
  refine s1 hK rfl rfl rfl rfl fun a hK => ?_
  refine wpList_nil (nm_then ?_)
  refine wp_seq ?_
  refine wp_region_lit ?_
  refine s1 hK rfl rfl rfl rfl fun a hK => ?_
  obtain ⟨x2, hx3, h⟩ := obind_some h
  refine s_call hK Try.call22 rfl rfl rfl rfl rfl (c_spec_l1In fu _ _ _  hx3) fun e4 w5 hR => ?_
  obtain ⟨rfl, hE⟩ := hR
  refine ⟨_, rfl, fun a hK => ?_⟩
  have hM := hM.step hE
  refine s1 hK rfl rfl rfl rfl fun a hK => ?_
  refine wpList_nil (nm_then ?_)
  refine wp_ret ?_
  have h := Option.some.inj h
  subst h
  exact finR1 hK rfl (RV.tmp hK rfl) ⟨rfl, hM.ext⟩

theorem c_spec_PalletOk (fu : Nat) {w0 : World} (x1 : Pallet)  {r : Bool}
    (h : d_spec_PalletOk fu x1 = some r) :
    Calls Try.prog 29 #[.agg (Flat.e (x1)).toArray] w0 fun e w => e = .returned (.bool (r)) ∧ Ext [] w0 w := by
  refine enter (vs := [_]) Try.func29 rfl Try.ntmps29 rfl fun a hK => ?_
  have hM := St.start w0
  unfold d_spec_PalletOk at h
  refine wp_seq ?_
  refine wp_region_lit ?_
  refine s_box (cs := [.int .i64 (x1.fW), .int .i64 (x1.fD), .int .i64 (x1.fH), .int .i64 (x1.fGram)]) hM hK rfl rfl rfl rfl rfl rfl fun b2 w4 a hK hM hE hb3 => ?_
  refine s1 hK rfl rfl rfl rfl fun a hK => ?_
  refine wpList_nil (nm_then ?_)
  refine wp_seq ?_
  refine wp_region_lit ?_
  refine s_val hK rfl rfl rfl (r_fa fa36_0 hK rfl rfl) fun a hK => ?_
  refine s_val hK rfl rfl rfl (r_ldb t13 hM 0 hb3 0 hK rfl rfl rfl rfl rfl) fun a hK => ?_
  obtain ⟨x5, hx6, h⟩ := obind_some h
  refine s_call hK Try.call33 rfl rfl rfl rfl rfl (c_spec_l2Side fu _  hx6) fun e7 w8 hR => ?_
  obtain ⟨rfl, hE⟩ := hR
  refine ⟨_, rfl, fun a hK => ?_⟩
  have hM := hM.step hE
  refine s1 hK rfl rfl rfl rfl fun a hK => ?_
  refine bsplit (x5) (fun hb9 => ?_) (fun hb9 => ?_)
  · have h := bif_t hb9 h
    have hK := hK.re (d := 6) rfl (congrArg Value.bool hb9)
    refine s_val hK rfl rfl rfl (r_fa fa36_1 hK rfl rfl) fun a hK => ?_
    refine s_val hK rfl rfl rfl (r_ldb t13 hM 0 hb3 1 hK rfl rfl rfl rfl rfl) fun a hK => ?_
    obtain ⟨x10, hx11, h⟩ := obind_some h
    refine s_call hK Try.call33 rfl rfl rfl rfl rfl (c_spec_l2Side fu _  hx11) fun e12 w13 hR => ?_
    obtain ⟨rfl, hE⟩ := hR
    refine ⟨_, rfl, fun a hK => ?_⟩
    have hM := hM.step hE
    iterate 2 (refine s1 hK rfl rfl rfl rfl fun a hK => ?_)
    refine bsplit (x10) (fun hb14 => ?_) (fun hb14 => ?_)
    · have h := bif_t hb14 h
      have hK := hK.re (d := 11) rfl (congrArg Value.bool hb14)
      refine s_val hK rfl rfl rfl (r_fa fa36_2 hK rfl rfl) fun a hK => ?_
      refine s_val hK rfl rfl rfl (r_ldb t13 hM 0 hb3 2 hK rfl rfl rfl rfl rfl) fun a hK => ?_
      obtain ⟨x15, hx16, h⟩ := obind_some h
      refine s_call hK Try.call33 rfl rfl rfl rfl rfl (c_spec_l2Side fu _  hx16) fun e17 w18 hR => ?_
      obtain ⟨rfl, hE⟩ := hR
      refine ⟨_, rfl, fun a hK => ?_⟩
      have hM := hM.step hE
      iterate 2 (refine s1 hK rfl rfl rfl rfl fun a hK => ?_)
      refine bsplit (x15) (fun hb19 => ?_) (fun hb19 => ?_)
      · have h := bif_t hb19 h
        have hK := hK.re (d := 16) rfl (congrArg Value.bool hb19)
        refine s_val hK rfl rfl rfl (r_fa fa36_3 hK rfl rfl) fun a hK => ?_
        refine s_val hK rfl rfl rfl (r_ldb t13 hM 0 hb3 3 hK rfl rfl rfl rfl rfl) fun a hK => ?_
        obtain ⟨x20, hx21, h⟩ := obind_some h
        refine s_call hK Try.call22 rfl rfl rfl rfl rfl (c_spec_l1In fu _ _ _  hx21) fun e22 w23 hR => ?_
        obtain ⟨rfl, hE⟩ := hR
        refine ⟨_, rfl, fun a hK => ?_⟩
        have hM := hM.step hE
        iterate 2 (refine s1 hK rfl rfl rfl rfl fun a hK => ?_)
        refine wpList_nil (nm_then ?_)
        refine wp_ret ?_
        have h := Option.some.inj h
        subst h
        exact finR1 hK rfl (RV.tmp hK rfl) ⟨rfl, hM.ext⟩
      · have h := bif_f hb19 h
        have hK := hK.re (d := 16) rfl (congrArg Value.bool hb19)
        refine sk hK rfl rfl rfl fun a hK => ?_
        refine sk hK rfl rfl rfl fun a hK => ?_
        refine sk hK rfl rfl rfl fun a hK => ?_
        iterate 2 (refine s1 hK rfl rfl rfl rfl fun a hK => ?_)
        refine wpList_nil (nm_then ?_)
        refine wp_ret ?_
        have h := Option.some.inj h
        subst h
        exact finR1 hK rfl (RV.tmp hK rfl) ⟨rfl, hM.ext⟩
    · have h := bif_f hb14 h
      have hK := hK.re (d := 11) rfl (congrArg Value.bool hb14)
      refine sk hK rfl rfl rfl fun a hK => ?_
      refine sk hK rfl rfl rfl fun a hK => ?_
      refine sk hK rfl rfl rfl fun a hK => ?_
      iterate 2 (refine s1 hK rfl rfl rfl rfl fun a hK => ?_)
      refine sk hK rfl rfl rfl fun a hK => ?_
      refine sk hK rfl rfl rfl fun a hK => ?_
      refine sk hK rfl rfl rfl fun a hK => ?_
      iterate 2 (refine s1 hK rfl rfl rfl rfl fun a hK => ?_)
      refine wpList_nil (nm_then ?_)
      refine wp_ret ?_
      have h := Option.some.inj h
      subst h
      exact finR1 hK rfl (RV.tmp hK rfl) ⟨rfl, hM.ext⟩
  · have h := bif_f hb9 h
    have hK := hK.re (d := 6) rfl (congrArg Value.bool hb9)
    refine sk hK rfl rfl rfl fun a hK => ?_
    refine sk hK rfl rfl rfl fun a hK => ?_
    refine sk hK rfl rfl rfl fun a hK => ?_
    iterate 2 (refine s1 hK rfl rfl rfl rfl fun a hK => ?_)
    refine sk hK rfl rfl rfl fun a hK => ?_
    refine sk hK rfl rfl rfl fun a hK => ?_
    refine sk hK rfl rfl rfl fun a hK => ?_
    iterate 2 (refine s1 hK rfl rfl rfl rfl fun a hK => ?_)
    refine sk hK rfl rfl rfl fun a hK => ?_
    refine sk hK rfl rfl rfl fun a hK => ?_
    refine sk hK rfl rfl rfl fun a hK => ?_
    iterate 2 (refine s1 hK rfl rfl rfl rfl fun a hK => ?_)
    refine wpList_nil (nm_then ?_)
    refine wp_ret ?_
    have h := Option.some.inj h
    subst h
    exact finR1 hK rfl (RV.tmp hK rfl) ⟨rfl, hM.ext⟩

theorem c_spec_BoxesOk (fu : Nat) {w0 : World} (p1 : Pallet) (list2 : List Box) {v3 : Value} {F4 : List Nat} (hp5 : rd w0 F4 [v3] list2) {r : Bool}
    (h : d_spec_BoxesOk fu p1 list2 = some r) :
    Calls Try.prog 27 #[.agg (Flat.e (p1)).toArray, v3] w0 fun e w => e = .returned (.bool (r)) ∧ Ext [] w0 w := by
  refine enter (vs := [_, _]) Try.func27 rfl Try.ntmps27 rfl fun a hK => ?_
  have hM := St.start w0
  unfold d_spec_BoxesOk at h
  refine wp_seq ?_
  refine wp_region_lit ?_
  refine s_box (cs := [.int .i64 (p1.fW), .int .i64 (p1.fD), .int .i64 (p1.fH), .int .i64 (p1.fGram)]) hM hK rfl rfl rfl rfl rfl rfl fun b6 w8 a hK hM hE hb7 => ?_
  refine s1 hK rfl rfl rfl rfl fun a hK => ?_
  refine wpList_nil (nm_then ?_)
  refine wp_seq ?_
  refine wp_seq ?_
  refine wp_region_lit ?_
  refine s_val hK rfl rfl rfl (r_ldB ta36 hM 0 hb7 0 hK rfl rfl rfl rfl rfl rfl) fun a hK => ?_
  obtain ⟨x9, hx10, h⟩ := obind_some h
  refine s_call hK Try.call29 rfl rfl rfl rfl rfl (c_spec_PalletOk fu _  hx10) fun e11 w12 hR => ?_
  obtain ⟨rfl, hE⟩ := hR
  refine ⟨_, rfl, fun a hK => ?_⟩
  have hM := hM.step hE
  refine s1 hK rfl rfl rfl rfl fun a hK => ?_
  refine wpList_nil (nm_then ?_)
  refine c_cond (b := !x9) hK rfl (fun hb13 => ?_) (fun hb13 => ?_)
  · have h := bif_t hb13 h
    refine wp_seq ?_
    refine wp_region_lit ?_
    refine s1 hK rfl rfl rfl rfl fun a hK => ?_
    refine wpList_nil (nm_then ?_)
    refine wp_ret (rt_then ?_)
    have h := Option.some.inj h
    subst h
    exact finR1 hK rfl (RV.tmp hK rfl) ⟨rfl, hM.ext⟩
  · have h := bif_f hb13 h
    refine wp_skip (nm_then ?_)
    refine wp_seq ?_
    refine wp_seq ?_
    refine wp_region_lit ?_
    refine s1 hK rfl rfl rfl rfl fun a hK => ?_
    refine wpList_nil (nm_then ?_)
    refine wp_block ?_
    refine c_loop (fun n a w => ∃ (i162 : Int), K 50 [(1, v3), (2, .pointer (some (⟨b6, 0, none⟩ : Addr))), (5, .int .i64 (i162))] a ∧ St [] w0 w [([b6], w8)] ∧ d_spec_BoxesOk_L3 fu p1 list2 n i162 = some r) ?_ ?_ fu _ _ ?_
    · rintro a w ⟨_, _, _, h⟩
      cases (show none = some _ from h)
    · rintro m163 a w161 ⟨i162, hK, hM, h⟩
      rw [d_spec_BoxesOk_L3_s] at h
      unfold d_spec_BoxesOk_L3_B at h
      refine wp_seq ?_
      refine wp_seq ?_
      refine wp_region_lit ?_
      iterate 2 (refine s1 hK rfl rfl rfl rfl fun a hK => ?_)
      refine s_val hK rfl rfl rfl (r_len (α := Box) hp5 hK Try.underlying29 rfl rfl) fun a hK => ?_
      refine s1 hK rfl rfl rfl rfl fun a hK => ?_
      refine wpList_nil (nm_then ?_)
      refine c_cond (b := decide (i162 < ((list2.length : Int)))) hK rfl (fun hb164 => ?_) (fun hb164 => ?_)
      · have h := bif_t hb164 h
        refine wp_skip (nm_then ?_)
        refine c_cut (fun a w => ∃ (b196 : Box) (b193 : Nat) (u194 : World) (x197 : Int) (x198 : Int) (x199 : Bool) (x200 : Bool) (x201 : Int) (x202 : Int) (x203 : Bool) (x204 : Bool) (x205 : Int) (x206 : Int) (x207 : Bool) (x208 : Bool), K 50 [(1, v3), (2, .pointer (some (⟨b6, 0, none⟩ : Addr))), (5, .int .i64 (i162)), (27, .pointer (some ((⟨b193, 0, none⟩ : Addr).add 1))), (28, .int .i64 (x197)), (29, .pointer (some ((⟨b6, 0, none⟩ : Addr).add 1))), (30, .int .i64 (x198)), (31, .bool (x199)), (32, .bool (x200)), (35, .pointer (some ((⟨b193, 0, none⟩ : Addr).add 2))), (36, .int .i64 (x201)), (37, .pointer (some ((⟨b6, 0, none⟩ : Addr).add 2))), (38, .int .i64 (x202)), (39, .bool (x203)), (40, .bool (x204)), (43, .pointer (some ((⟨b193, 0, none⟩ : Addr).add 3))), (44, .int .i64 (x205)), (45, .pointer (some ((⟨b6, 0, none⟩ : Addr).add 3))), (46, .int .i64 (x206)), (47, .bool (x207)), (48, .bool (x208))] a ∧ St [] w0 w [([b6], w8), ([b193], u194)] ∧ bx u194 b193 [.int .i64 (b196.fW), .int .i64 (b196.fD), .int .i64 (b196.fH), .int .i64 (b196.fGram)] 44 ∧ d_spec_BoxesOk_J4 fu (d_spec_BoxesOk_L3 fu p1 list2 m163) i162 = some r) ?_ ?_
        · rintro a w192 ⟨b196, b193, u194, x197, x198, x199, x200, x201, x202, x203, x204, x205, x206, x207, x208, hK, hM, hb195, h⟩
          unfold d_spec_BoxesOk_J4 at h
          refine wp_region_lit ?_
          iterate 3 (refine s1 hK rfl rfl rfl rfl fun a hK => ?_)
          refine wpList_nil (nm_then ?_)
          exact ⟨w64 (i162 + 1), hK.keep [1, 2, 5] rfl, hM.sel [0] rfl (by decide), h⟩
        · refine wp_block ?_
          refine wp_seq ?_
          refine wp_region_lit ?_
          iterate 2 (refine s1 hK rfl rfl rfl rfl fun a hK => ?_)
          obtain ⟨x209, hx210, h⟩ := obind_some h
          refine s_val hK rfl rfl rfl (r_ixa hp5 hx210 hK ts29 rfl rfl rfl) fun a hK => ?_
          refine s_val hK rfl rfl rfl (r_lde hp5 (hM.a00 (Enc.rd_lt hp5)) hx210 ta44 hK rfl rfl) fun a hK => ?_
          refine s_alloc (cs := [.int .i64 (0), .int .i64 (0), .int .i64 (0), .int .i64 (0)]) hM hK Try.zeroValue44 rfl rfl rfl rfl rfl fun b211 w213 a hK hM hE hb212 => ?_
          refine s_stb (cs' := [.int .i64 (x209.fW), .int .i64 (x209.fD), .int .i64 (x209.fH), .int .i64 (x209.fGram)]) Try.sizeOf44 hM 0 hb212 0 hK rfl rfl rfl rfl rfl rfl rfl rfl rfl rfl rfl fun w214 a hK hE hM hb215 => ?_
          refine wpList_nil (nm_then ?_)
          refine wp_seq ?_
          refine wp_region_lit ?_
          refine s_val hK rfl rfl rfl (r_fa fa44_0 hK rfl rfl) fun a hK => ?_
          refine s_val hK rfl rfl rfl (r_ldb t13 hM 0 hb215 0 hK rfl rfl rfl rfl rfl) fun a hK => ?_
          refine s_val hK rfl rfl rfl (r_fa fa36_0 hK rfl rfl) fun a hK => ?_
          refine s_val hK rfl rfl rfl (r_ldb t13 hM 1 hb7 0 hK rfl rfl rfl rfl rfl) fun a hK => ?_
          obtain ⟨x216, hx217, h⟩ := obind_some h
          refine s_call hK Try.call22 rfl rfl rfl rfl rfl (c_spec_l1In fu _ _ _  hx217) fun e218 w219 hR => ?_
          obtain ⟨rfl, hE⟩ := hR
          refine ⟨_, rfl, fun a hK => ?_⟩
          have hM := hM.step hE
          iterate 2 (refine s1 hK rfl rfl rfl rfl fun a hK => ?_)
          refine bsplit (!x216) (fun hb220 => ?_) (fun hb220 => ?_)
          · have h := bif_t hb220 h
            have hK := hK.re (d := 26) rfl (congrArg Value.bool hb220)
            refine sk hK rfl rfl rfl fun a hK => ?_
            refine sk hK rfl rfl rfl fun a hK => ?_
            refine sk hK rfl rfl rfl fun a hK => ?_
            refine sk hK rfl rfl rfl fun a hK => ?_
            refine sk hK rfl rfl rfl fun a hK => ?_
            refine sk hK rfl rfl rfl fun a hK => ?_
            iterate 2 (refine s1 hK rfl rfl rfl rfl fun a hK => ?_)
            refine sk hK rfl rfl rfl fun a hK => ?_
            refine sk hK rfl rfl rfl fun a hK => ?_
            refine sk hK rfl rfl rfl fun a hK => ?_
            refine sk hK rfl rfl rfl fun a hK => ?_
            refine sk hK rfl rfl rfl fun a hK => ?_
            refine sk hK rfl rfl rfl fun a hK => ?_
            iterate 2 (refine s1 hK rfl rfl rfl rfl fun a hK => ?_)
            refine sk hK rfl rfl rfl fun a hK => ?_
            refine sk hK rfl rfl rfl fun a hK => ?_
            refine sk hK rfl rfl rfl fun a hK => ?_
            refine sk hK rfl rfl rfl fun a hK => ?_
            refine sk hK rfl rfl rfl fun a hK => ?_
            refine sk hK rfl rfl rfl fun a hK => ?_
            refine s1 hK rfl rfl rfl rfl fun a hK => ?_
            have hK := hK.keep [1, 2, 5, 27, 28, 29, 30, 31, 32, 35, 36, 37, 38, 39, 40, 43, 44, 45, 46, 47, 48, 49] rfl
            refine wpList_nil (nm_then ?_)
            refine wp_cond_true (hK.ev rfl) ?_
            refine wp_seq ?_
            refine wp_region_lit ?_
            refine s1 hK rfl rfl rfl rfl fun a hK => ?_
            refine wpList_nil (nm_then ?_)
            refine wp_ret (rt_block (rt_then (rt_then (rt_block (rt_then ?_)))))
            have h := Option.some.inj h
            subst h
            exact finR1 hK rfl (RV.tmp hK rfl) ⟨rfl, hM.ext⟩
          · have h := bif_f hb220 h
            have hK := hK.re (d := 26) rfl (congrArg Value.bool hb220)
            refine s_val hK rfl rfl rfl (r_fa fa44_1 hK rfl rfl) fun a hK => ?_
            refine s_val hK rfl rfl rfl (r_ldb t13 hM 0 hb215 1 hK rfl rfl rfl rfl rfl) fun a hK => ?_
            refine s_val hK rfl rfl rfl (r_fa fa36_1 hK rfl rfl) fun a hK => ?_
            refine s_val hK rfl rfl rfl (r_ldb t13 hM 1 hb7 1 hK rfl rfl rfl rfl rfl) fun a hK => ?_
            obtain ⟨x221, hx222, h⟩ := obind_some h
            refine s_call hK Try.call22 rfl rfl rfl rfl rfl (c_spec_l1In fu _ _ _  hx222) fun e223 w224 hR => ?_
            obtain ⟨rfl, hE⟩ := hR
            refine ⟨_, rfl, fun a hK => ?_⟩
            have hM := hM.step hE
            iterate 3 (refine s1 hK rfl rfl rfl rfl fun a hK => ?_)
            refine bsplit (!x221) (fun hb225 => ?_) (fun hb225 => ?_)
            · have h := bif_t hb225 h
              have hK := hK.re (d := 34) rfl (congrArg Value.bool hb225)
              refine sk hK rfl rfl rfl fun a hK => ?_
              refine sk hK rfl rfl rfl fun a hK => ?_
              refine sk hK rfl rfl rfl fun a hK => ?_
              refine sk hK rfl rfl rfl fun a hK => ?_
              refine sk hK rfl rfl rfl fun a hK => ?_
              refine sk hK rfl rfl rfl fun a hK => ?_
              iterate 2 (refine s1 hK rfl rfl rfl rfl fun a hK => ?_)
              refine sk hK rfl rfl rfl fun a hK => ?_
              refine sk hK rfl rfl rfl fun a hK => ?_
              refine sk hK rfl rfl rfl fun a hK => ?_
              refine sk hK rfl rfl rfl fun a hK => ?_
              refine sk hK rfl rfl rfl fun a hK => ?_
              refine sk hK rfl rfl rfl fun a hK => ?_
              refine s1 hK rfl rfl rfl rfl fun a hK => ?_
              have hK := hK.keep [1, 2, 5, 27, 28, 29, 30, 31, 32, 35, 36, 37, 38, 39, 40, 43, 44, 45, 46, 47, 48, 49] rfl
              refine wpList_nil (nm_then ?_)
              refine wp_cond_true (hK.ev rfl) ?_
              refine wp_seq ?_
              refine wp_region_lit ?_
              refine s1 hK rfl rfl rfl rfl fun a hK => ?_
              refine wpList_nil (nm_then ?_)
              refine wp_ret (rt_block (rt_then (rt_then (rt_block (rt_then ?_)))))
              have h := Option.some.inj h
              subst h
              exact finR1 hK rfl (RV.tmp hK rfl) ⟨rfl, hM.ext⟩
            · have h := bif_f hb225 h
              have hK := hK.re (d := 34) rfl (congrArg Value.bool hb225)
              refine s_val hK rfl rfl rfl (r_fa fa44_2 hK rfl rfl) fun a hK => ?_
              refine s_val hK rfl rfl rfl (r_ldb t13 hM 0 hb215 2 hK rfl rfl rfl rfl rfl) fun a hK => ?_
              refine s_val hK rfl rfl rfl (r_fa fa36_2 hK rfl rfl) fun a hK => ?_
              refine s_val hK rfl rfl rfl (r_ldb t13 hM 1 hb7 2 hK rfl rfl rfl rfl rfl) fun a hK => ?_
              obtain ⟨x226, hx227, h⟩ := obind_some h
              refine s_call hK Try.call22 rfl rfl rfl rfl rfl (c_spec_l1In fu _ _ _  hx227) fun e228 w229 hR => ?_
              obtain ⟨rfl, hE⟩ := hR
              refine ⟨_, rfl, fun a hK => ?_⟩
              have hM := hM.step hE
              iterate 3 (refine s1 hK rfl rfl rfl rfl fun a hK => ?_)
              refine bsplit (!x226) (fun hb230 => ?_) (fun hb230 => ?_)
              · have h := bif_t hb230 h
                have hK := hK.re (d := 42) rfl (congrArg Value.bool hb230)
                refine sk hK rfl rfl rfl fun a hK => ?_
                refine sk hK rfl rfl rfl fun a hK => ?_
                refine sk hK rfl rfl rfl fun a hK => ?_
                refine sk hK rfl rfl rfl fun a hK => ?_
                refine sk hK rfl rfl rfl fun a hK => ?_
                refine sk hK rfl rfl rfl fun a hK => ?_
                refine s1 hK rfl rfl rfl rfl fun a hK => ?_
                have hK := hK.keep [1, 2, 5, 27, 28, 29, 30, 31, 32, 35, 36, 37, 38, 39, 40, 43, 44, 45, 46, 47, 48, 49] rfl
                refine wpList_nil (nm_then ?_)
                refine wp_cond_true (hK.ev rfl) ?_
                refine wp_seq ?_
                refine wp_region_lit ?_
                refine s1 hK rfl rfl rfl rfl fun a hK => ?_
                refine wpList_nil (nm_then ?_)
                refine wp_ret (rt_block (rt_then (rt_then (rt_block (rt_then ?_)))))
                have h := Option.some.inj h
                subst h
                exact finR1 hK rfl (RV.tmp hK rfl) ⟨rfl, hM.ext⟩
              · have h := bif_f hb230 h
                have hK := hK.re (d := 42) rfl (congrArg Value.bool hb230)
                refine s_val hK rfl rfl rfl (r_fa fa44_3 hK rfl rfl) fun a hK => ?_
                refine s_val hK rfl rfl rfl (r_ldb t13 hM 0 hb215 3 hK rfl rfl rfl rfl rfl) fun a hK => ?_
                refine s_val hK rfl rfl rfl (r_fa fa36_3 hK rfl rfl) fun a hK => ?_
                refine s_val hK rfl rfl rfl (r_ldb t13 hM 1 hb7 3 hK rfl rfl rfl rfl rfl) fun a hK => ?_
                obtain ⟨x231, hx232, h⟩ := obind_some h
                refine s_call hK Try.call22 rfl rfl rfl rfl rfl (c_spec_l1In fu _ _ _  hx232) fun e233 w234 hR => ?_
                obtain ⟨rfl, hE⟩ := hR
                refine ⟨_, rfl, fun a hK => ?_⟩
                have hM := hM.step hE
                iterate 2 (refine s1 hK rfl rfl rfl rfl fun a hK => ?_)
                have hK := hK.keep [1, 2, 5, 27, 28, 29, 30, 31, 32, 35, 36, 37, 38, 39, 40, 43, 44, 45, 46, 47, 48, 49] rfl
                refine wpList_nil (nm_then ?_)
                refine c_cond (b := !x231) hK rfl (fun hb235 => ?_) (fun hb235 => ?_)
                · have h := bif_t hb235 h
                  refine wp_seq ?_
                  refine wp_region_lit ?_
                  refine s1 hK rfl rfl rfl rfl fun a hK => ?_
                  refine wpList_nil (nm_then ?_)
                  refine wp_ret (rt_block (rt_then (rt_then (rt_block (rt_then ?_)))))
                  have h := Option.some.inj h
                  subst h
                  exact finR1 hK rfl (RV.tmp hK rfl) ⟨rfl, hM.ext⟩
                · have h := bif_f hb235 h
                  refine wp_skip (nm_block (nm_then ?_))
                  exact ⟨x209, b211, w214, x209.fD, p1.fD, x221, !x221, x209.fH, p1.fH, x226, !x226, x209.fGram, p1.fGram, x231, !x231, hK.keep [1, 2, 5, 27, 28, 29, 30, 31, 32, 35, 36, 37, 38, 39, 40, 43, 44, 45, 46, 47, 48] rfl, hM.sel [1, 0] rfl (by decide), hb215, h⟩
      · have h := bif_f hb164 h
        refine wp_exit (ex_then (ex_then (ex_same (nm_then ?_))))
        refine wp_seq ?_
        refine wp_region_lit ?_
        refine s1 hK rfl rfl rfl rfl fun a hK => ?_
        refine wpList_nil (nm_then ?_)
        refine wp_ret ?_
        have h := Option.some.inj h
        subst h
        exact finR1 hK rfl (RV.tmp hK rfl) ⟨rfl, hM.ext⟩
    · exact ⟨0, hK.keep [1, 2, 5] rfl, hM.sel [0] rfl (by decide), h⟩

theorem c_spec_LayersPromise (fu : Nat) {w0 : World} (p1 : Pallet) (list2 : List Box) (n6 : Int) {v3 : Value} {F4 : List Nat} (hp5 : rd w0 F4 [v3] list2) {r : Int}
    (h : d_spec_LayersPromise fu p1 list2 n6 = some r) :
    Calls Try.prog 17 #[.agg (Flat.e (p1)).toArray, v3, .int .i64 (n6)] w0 fun e w => e = .returned (.int .i64 (r)) ∧ Ext [] w0 w := by
  refine enter (vs := [_, _, _]) Try.func17 rfl Try.ntmps17 rfl fun a hK => ?_
  have hM := St.start w0
  unfold d_spec_LayersPromise at h
  refine wp_seq ?_
  refine wp_region_lit ?_
  refine s_box (cs := [.int .i64 (p1.fW), .int .i64 (p1.fD), .int .i64 (p1.fH), .int .i64 (p1.fGram)]) hM hK rfl rfl rfl rfl rfl rfl fun b7 w9 a hK hM hE hb8 => ?_
  refine s1 hK rfl rfl rfl rfl fun a hK => ?_
  refine wpList_nil (nm_then ?_)
  refine c_cut (fun a w => K 19 [(2, .int .i64 (n6))] a ∧ St [] w0 w [] ∧ d_spec_LayersPromise_J1 fu n6 = some r) ?_ ?_
  · rintro a w20 ⟨hK, hM, h⟩
    unfold d_spec_LayersPromise_J1 at h
    refine wp_seq ?_
    refine wp_region_lit ?_
    iterate 4 (refine s1 hK rfl rfl rfl rfl fun a hK => ?_)
    refine wpList_nil (nm_then ?_)
    refine wp_ret ?_
    have h := Option.some.inj h
    subst h
    exact finR1 hK rfl (RV.tmp hK rfl) ⟨rfl, hM.ext⟩
  · refine wp_seq ?_
    refine wp_region_lit ?_
    refine s_val hK rfl rfl rfl (r_ldB ta36 hM 0 hb8 0 hK rfl rfl rfl rfl rfl rfl) fun a hK => ?_
    refine s1 hK rfl rfl rfl rfl fun a hK => ?_
    obtain ⟨x21, hx22, h⟩ := obind_some h
    refine s_call hK Try.call27 rfl rfl rfl rfl rfl (c_spec_BoxesOk fu _ _ (Enc.rd_agr hp5 (hM.a00 (Enc.rd_lt hp5))) hx22) fun e23 w24 hR => ?_
    obtain ⟨rfl, hE⟩ := hR
    refine ⟨_, rfl, fun a hK => ?_⟩
    have hM := hM.step hE
    iterate 2 (refine s1 hK rfl rfl rfl rfl fun a hK => ?_)
    refine bsplit (!x21) (fun hb25 => ?_) (fun hb25 => ?_)
    · have h := bif_t hb25 h
      have hK := hK.re (d := 11) rfl (congrArg Value.bool hb25)
      refine sk hK rfl rfl rfl fun a hK => ?_
      refine sk hK rfl rfl rfl fun a hK => ?_
      refine sk hK rfl rfl rfl fun a hK => ?_
      refine s1 hK rfl rfl rfl rfl fun a hK => ?_
      refine wpList_nil (nm_then ?_)
      refine wp_cond_true (hK.ev rfl) ?_
      refine wp_seq ?_
      refine wp_region_lit ?_
      refine s1 hK rfl rfl rfl rfl fun a hK => ?_
      refine wpList_nil (nm_then ?_)
      refine wp_ret (rt_then ?_)
      have h := Option.some.inj h
      subst h
      exact finR1 hK rfl (RV.tmp hK rfl) ⟨rfl, hM.ext⟩
    · have h := bif_f hb25 h
      have hK := hK.re (d := 11) rfl (congrArg Value.bool hb25)
      refine s1 hK rfl rfl rfl rfl fun a hK => ?_
      obtain ⟨x26, hx27, h⟩ := obind_some h
      refine s_call hK Try.call22 rfl rfl rfl rfl rfl (c_spec_l1In fu _ _ _  hx27) fun e28 w29 hR => ?_
      obtain ⟨rfl, hE⟩ := hR
      refine ⟨_, rfl, fun a hK => ?_⟩
      have hM := hM.step hE
      iterate 2 (refine s1 hK rfl rfl rfl rfl fun a hK => ?_)
      refine wpList_nil (nm_then ?_)
      refine c_cond (b := !x26) hK rfl (fun hb30 => ?_) (fun hb30 => ?_)
      · have h := bif_t hb30 h
        refine wp_seq ?_
        refine wp_region_lit ?_
        refine s1 hK rfl rfl rfl rfl fun a hK => ?_
        refine wpList_nil (nm_then ?_)
        refine wp_ret (rt_then ?_)
        have h := Option.some.inj h
        subst h
        exact finR1 hK rfl (RV.tmp hK rfl) ⟨rfl, hM.ext⟩
      · have h := bif_f hb30 h
        refine wp_skip (nm_then ?_)
        exact ⟨hK.keep [2] rfl, hM.sel [] rfl (by decide), h⟩

theorem c_impl_in (fu : Nat) {w0 : World} (n1 : Int) (lo2 : Int) (hi3 : Int)  {r : Bool}
    (h : d_impl_in fu n1 lo2 hi3 = some r) :
    Calls Try.prog 23 #[.int .i64 (n1), .int .i64 (lo2), .int .i64 (hi3)] w0 fun e w => e = .returned (.bool (r)) ∧ Ext [] w0 w := by
  refine enter (vs := [_, _, _]) Try.func23 rfl Try.ntmps23 rfl fun a hK => ?_
  have hM := St.start w0
  unfold d_impl_in at h
  refine wp_seq ?_
  refine wp_region_lit ?_
  refine s1 hK rfl rfl rfl rfl fun a hK => ?_
  refine wpList_nil (nm_then ?_)
  refine wp_seq ?_
  refine wp_region_lit ?_
  iterate 4 (refine s1 hK rfl rfl rfl rfl fun a hK => ?_)
  refine bsplit (decide (n1 ≥ lo2)) (fun hb4 => ?_) (fun hb4 => ?_)
  · have h := bif_t hb4 h
    have hK := hK.re (d := 10) rfl (congrArg Value.bool hb4)
    iterate 5 (refine s1 hK rfl rfl rfl rfl fun a hK => ?_)
    refine wpList_nil (nm_then ?_)
    refine wp_ret ?_
    have h := Option.some.inj h
    subst h
    exact finR1 hK rfl (RV.tmp hK rfl) ⟨rfl, hM.ext⟩
  · have h := bif_f hb4 h
    have hK := hK.re (d := 10) rfl (congrArg Value.bool hb4)
    refine sk hK rfl rfl rfl fun a hK => ?_
    refine sk hK rfl rfl rfl fun a hK => ?_
    refine sk hK rfl rfl rfl fun a hK => ?_
    iterate 2 (refine s1 hK rfl rfl rfl rfl fun a hK => ?_)
    refine wpList_nil (nm_then ?_)
    refine wp_ret ?_
    have h := Option.some.inj h
    subst h
    exact finR1 hK rfl (RV.tmp hK rfl) ⟨rfl, hM.ext⟩

theorem c_impl_isSide (fu : Nat) {w0 : World} (n1 : Int)  {r : Bool}
    (h : d_impl_isSide fu n1 = some r) :
    Calls Try.prog 34 #[.int .i64 (n1)] w0 fun e w => e = .returned (.bool (r)) ∧ Ext [] w0 w := by
  refine enter (vs := [_]) Try.func34 rfl Try.ntmps34 rfl fun a hK => ?_
  have hM := St.start w0
  unfold d_impl_isSide at h
  refine wp_seq ?_
  refine wp_region_lit ?_
  refine s1 hK rfl rfl rfl rfl fun a hK => ?_
  refine wpList_nil (nm_then ?_)
  refine wp_seq ?_
  refine wp_region_lit ?_
  refine s1 hK rfl rfl rfl rfl fun a hK => ?_
  obtain ⟨x2, hx3, h⟩ := obind_some h
  refine s_call hK Try.call23 rfl rfl rfl rfl rfl (c_impl_in fu _ _ _  hx3) fun e4 w5 hR => ?_
  obtain ⟨rfl, hE⟩ := hR
  refine ⟨_, rfl, fun a hK => ?_⟩
  have hM := hM.step hE
  refine s1 hK rfl rfl rfl rfl fun a hK => ?_
  refine wpList_nil (nm_then ?_)
  refine wp_ret ?_
  have h := Option.some.inj h
  subst h
  exact finR1 hK rfl (RV.tmp hK rfl) ⟨rfl, hM.ext⟩

theorem c_impl_PalletOk (fu : Nat) {w0 : World} (x1 : Pallet)  {r : Bool}
    (h : d_impl_PalletOk fu x1 = some r) :
    Calls Try.prog 30 #[.agg (Flat.e (x1)).toArray] w0 fun e w => e = .returned (.bool (r)) ∧ Ext [] w0 w := by
  refine enter (vs := [_]) Try.func30 rfl Try.ntmps30 rfl fun a hK => ?_
  have hM := St.start w0
  unfold d_impl_PalletOk at h
  refine wp_seq ?_
  refine wp_region_lit ?_
  refine s_box (cs := [.int .i64 (x1.fW), .int .i64 (x1.fD), .int .i64 (x1.fH), .int .i64 (x1.fGram)]) hM hK rfl rfl rfl rfl rfl rfl fun b2 w4 a hK hM hE hb3 => ?_
  refine s1 hK rfl rfl rfl rfl fun a hK => ?_
  refine wpList_nil (nm_then ?_)
  refine wp_seq ?_
  refine wp_region_lit ?_
  refine s_val hK rfl rfl rfl (r_fa fa36_0 hK rfl rfl) fun a hK => ?_
  refine s_val hK rfl rfl rfl (r_ldb t13 hM 0 hb3 0 hK rfl rfl rfl rfl rfl) fun a hK => ?_
  obtain ⟨x5, hx6, h⟩ := obind_some h
  refine s_call hK Try.call34 rfl rfl rfl rfl rfl (c_impl_isSide fu _  hx6) fun e7 w8 hR => ?_
  obtain ⟨rfl, hE⟩ := hR
  refine ⟨_, rfl, fun a hK => ?_⟩
  have hM := hM.step hE
  refine s1 hK rfl rfl rfl rfl fun a hK => ?_
  refine bsplit (x5) (fun hb9 => ?_) (fun hb9 => ?_)
  · have h := bif_t hb9 h
    have hK := hK.re (d := 6) rfl (congrArg Value.bool hb9)
    refine s_val hK rfl rfl rfl (r_fa fa36_1 hK rfl rfl) fun a hK => ?_
    refine s_val hK rfl rfl rfl (r_ldb t13 hM 0 hb3 1 hK rfl rfl rfl rfl rfl) fun a hK => ?_
    obtain ⟨x10, hx11, h⟩ := obind_some h
    refine s_call hK Try.call34 rfl rfl rfl rfl rfl (c_impl_isSide fu _  hx11) fun e12 w13 hR => ?_
    obtain ⟨rfl, hE⟩ := hR
    refine ⟨_, rfl, fun a hK => ?_⟩
    have hM := hM.step hE
    iterate 2 (refine s1 hK rfl rfl rfl rfl fun a hK => ?_)
    refine bsplit (x10) (fun hb14 => ?_) (fun hb14 => ?_)
    · have h := bif_t hb14 h
      have hK := hK.re (d := 11) rfl (congrArg Value.bool hb14)
      refine s_val hK rfl rfl rfl (r_fa fa36_2 hK rfl rfl) fun a hK => ?_
      refine s_val hK rfl rfl rfl (r_ldb t13 hM 0 hb3 2 hK rfl rfl rfl rfl rfl) fun a hK => ?_
      obtain ⟨x15, hx16, h⟩ := obind_some h
      refine s_call hK Try.call34 rfl rfl rfl rfl rfl (c_impl_isSide fu _  hx16) fun e17 w18 hR => ?_
      obtain ⟨rfl, hE⟩ := hR
      refine ⟨_, rfl, fun a hK => ?_⟩
      have hM := hM.step hE
      iterate 2 (refine s1 hK rfl rfl rfl rfl fun a hK => ?_)
      refine bsplit (x15) (fun hb19 => ?_) (fun hb19 => ?_)
      · have h := bif_t hb19 h
        have hK := hK.re (d := 16) rfl (congrArg Value.bool hb19)
        refine s_val hK rfl rfl rfl (r_fa fa36_3 hK rfl rfl) fun a hK => ?_
        refine s_val hK rfl rfl rfl (r_ldb t13 hM 0 hb3 3 hK rfl rfl rfl rfl rfl) fun a hK => ?_
        obtain ⟨x20, hx21, h⟩ := obind_some h
        refine s_call hK Try.call23 rfl rfl rfl rfl rfl (c_impl_in fu _ _ _  hx21) fun e22 w23 hR => ?_
        obtain ⟨rfl, hE⟩ := hR
        refine ⟨_, rfl, fun a hK => ?_⟩
        have hM := hM.step hE
        iterate 2 (refine s1 hK rfl rfl rfl rfl fun a hK => ?_)
        refine wpList_nil (nm_then ?_)
        refine wp_ret ?_
        have h := Option.some.inj h
        subst h
        exact finR1 hK rfl (RV.tmp hK rfl) ⟨rfl, hM.ext⟩
      · have h := bif_f hb19 h
        have hK := hK.re (d := 16) rfl (congrArg Value.bool hb19)
        refine sk hK rfl rfl rfl fun a hK => ?_
        refine sk hK rfl rfl rfl fun a hK => ?_
        refine sk hK rfl rfl rfl fun a hK => ?_
        iterate 2 (refine s1 hK rfl rfl rfl rfl fun a hK => ?_)
        refine wpList_nil (nm_then ?_)
        refine wp_ret ?_
        have h := Option.some.inj h
        subst h
        exact finR1 hK rfl (RV.tmp hK rfl) ⟨rfl, hM.ext⟩
    · have h := bif_f hb14 h
      have hK := hK.re (d := 11) rfl (congrArg Value.bool hb14)
      refine sk hK rfl rfl rfl fun a hK => ?_
      refine sk hK rfl rfl rfl fun a hK => ?_
      refine sk hK rfl rfl rfl fun a hK => ?_
      iterate 2 (refine s1 hK rfl rfl rfl rfl fun a hK => ?_)
      refine sk hK rfl rfl rfl fun a hK => ?_
      refine sk hK rfl rfl rfl fun a hK => ?_
      refine sk hK rfl rfl rfl fun a hK => ?_
      iterate 2 (refine s1 hK rfl rfl rfl rfl fun a hK => ?_)
      refine wpList_nil (nm_then ?_)
      refine wp_ret ?_
      have h := Option.some.inj h
      subst h
      exact finR1 hK rfl (RV.tmp hK rfl) ⟨rfl, hM.ext⟩
  · have h := bif_f hb9 h
    have hK := hK.re (d := 6) rfl (congrArg Value.bool hb9)
    refine sk hK rfl rfl rfl fun a hK => ?_
    refine sk hK rfl rfl rfl fun a hK => ?_
    refine sk hK rfl rfl rfl fun a hK => ?_
    iterate 2 (refine s1 hK rfl rfl rfl rfl fun a hK => ?_)
    refine sk hK rfl rfl rfl fun a hK => ?_
    refine sk hK rfl rfl rfl fun a hK => ?_
    refine sk hK rfl rfl rfl fun a hK => ?_
    iterate 2 (refine s1 hK rfl rfl rfl rfl fun a hK => ?_)
    refine sk hK rfl rfl rfl fun a hK => ?_
    refine sk hK rfl rfl rfl fun a hK => ?_
    refine sk hK rfl rfl rfl fun a hK => ?_
    iterate 2 (refine s1 hK rfl rfl rfl rfl fun a hK => ?_)
    refine wpList_nil (nm_then ?_)
    refine wp_ret ?_
    have h := Option.some.inj h
    subst h
    exact finR1 hK rfl (RV.tmp hK rfl) ⟨rfl, hM.ext⟩

theorem c_impl_BoxesOk_1 (fu : Nat) {w0 : World} (b1 : Box) (x2 : Pallet) {b3 : Nat} (hp4 : bx w0 b3 [.int .i64 (x2.fW), .int .i64 (x2.fD), .int .i64 (x2.fH), .int .i64 (x2.fGram)] 36) {r : Bool}
    (h : d_impl_BoxesOk_1 fu b1 x2 = some r) :
    Calls Try.prog 32 #[.agg (Flat.e (b1)).toArray, .pointer (some (⟨b3, 0, none⟩ : Addr))] w0 fun e w => e = .returned (.bool (r)) ∧ Ext [] w0 w := by
  refine enter (vs := [_, _]) Try.func32 rfl Try.ntmps32 rfl fun a hK => ?_
  have hM := St.start w0
  unfold d_impl_BoxesOk_1 at h
  refine wp_seq ?_
  refine wp_region_lit ?_
  refine s_box (cs := [.int .i64 (b1.fW), .int .i64 (b1.fD), .int .i64 (b1.fH), .int .i64 (b1.fGram)]) hM hK rfl rfl rfl rfl rfl rfl fun b5 w7 a hK hM hE hb6 => ?_
  refine s1 hK rfl rfl rfl rfl fun a hK => ?_
  refine wpList_nil (nm_then ?_)
  refine wp_seq ?_
  refine wp_region_lit ?_
  refine s_val hK rfl rfl rfl (r_fa fa44_0 hK rfl rfl) fun a hK => ?_
  refine s_val hK rfl rfl rfl (r_ldb t13 hM 0 hb6 0 hK rfl rfl rfl rfl rfl) fun a hK => ?_
  refine s_val hK rfl rfl rfl (r_fa fa36_0 hK rfl rfl) fun a hK => ?_
  refine s_val hK rfl rfl rfl (r_ld1 t13 (r := []) (hp4.at (hM.a00 hp4.lt1) 0 1 rfl rfl rfl) hK rfl rfl) fun a hK => ?_
  obtain ⟨x8, hx9, h⟩ := obind_some h
  refine s_call hK Try.call23 rfl rfl rfl rfl rfl (c_impl_in fu _ _ _  hx9) fun e10 w11 hR => ?_
  obtain ⟨rfl, hE⟩ := hR
  refine ⟨_, rfl, fun a hK => ?_⟩
  have hM := hM.step hE
  iterate 2 (refine s1 hK rfl rfl rfl rfl fun a hK => ?_)
  refine bsplit (!x8) (fun hb12 => ?_) (fun hb12 => ?_)
  · have h := bif_t hb12 h
    have hK := hK.re (d := 10) rfl (congrArg Value.bool hb12)
    refine sk hK rfl rfl rfl fun a hK => ?_
    refine sk hK rfl rfl rfl fun a hK => ?_
    refine sk hK rfl rfl rfl fun a hK => ?_
    refine sk hK rfl rfl rfl fun a hK => ?_
    refine sk hK rfl rfl rfl fun a hK => ?_
    refine sk hK rfl rfl rfl fun a hK => ?_
    iterate 2 (refine s1 hK rfl rfl rfl rfl fun a hK => ?_)
    refine sk hK rfl rfl rfl fun a hK => ?_
    refine sk hK rfl rfl rfl fun a hK => ?_
    refine sk hK rfl rfl rfl fun a hK => ?_
    refine sk hK rfl rfl rfl fun a hK => ?_
    refine sk hK rfl rfl rfl fun a hK => ?_
    refine sk hK rfl rfl rfl fun a hK => ?_
    iterate 2 (refine s1 hK rfl rfl rfl rfl fun a hK => ?_)
    refine sk hK rfl rfl rfl fun a hK => ?_
    refine sk hK rfl rfl rfl fun a hK => ?_
    refine sk hK rfl rfl rfl fun a hK => ?_
    refine sk hK rfl rfl rfl fun a hK => ?_
    refine sk hK rfl rfl rfl fun a hK => ?_
    refine sk hK rfl rfl rfl fun a hK => ?_
    iterate 2 (refine s1 hK rfl rfl rfl rfl fun a hK => ?_)
    have hK := hK.keep [3] rfl
    refine wpList_nil (nm_then ?_)
    refine wp_ret ?_
    have h := Option.some.inj h
    subst h
    exact finR1 hK rfl (RV.tmp hK rfl) ⟨rfl, hM.ext⟩
  · have h := bif_f hb12 h
    have hK := hK.re (d := 10) rfl (congrArg Value.bool hb12)
    refine s_val hK rfl rfl rfl (r_fa fa44_1 hK rfl rfl) fun a hK => ?_
    refine s_val hK rfl rfl rfl (r_ldb t13 hM 0 hb6 1 hK rfl rfl rfl rfl rfl) fun a hK => ?_
    refine s_val hK rfl rfl rfl (r_fa fa36_1 hK rfl rfl) fun a hK => ?_
    refine s_val hK rfl rfl rfl (r_ld1 t13 (r := []) (hp4.at (hM.a00 hp4.lt1) 1 1 rfl rfl rfl) hK rfl rfl) fun a hK => ?_
    obtain ⟨x13, hx14, h⟩ := obind_some h
    refine s_call hK Try.call23 rfl rfl rfl rfl rfl (c_impl_in fu _ _ _  hx14) fun e15 w16 hR => ?_
    obtain ⟨rfl, hE⟩ := hR
    refine ⟨_, rfl, fun a hK => ?_⟩
    have hM := hM.step hE
    iterate 3 (refine s1 hK rfl rfl rfl rfl fun a hK => ?_)
    refine bsplit (!x13) (fun hb17 => ?_) (fun hb17 => ?_)
    · have h := bif_t hb17 h
      have hK := hK.re (d := 18) rfl (congrArg Value.bool hb17)
      refine sk hK rfl rfl rfl fun a hK => ?_
      refine sk hK rfl rfl rfl fun a hK => ?_
      refine sk hK rfl rfl rfl fun a hK => ?_
      refine sk hK rfl rfl rfl fun a hK => ?_
      refine sk hK rfl rfl rfl fun a hK => ?_
      refine sk hK rfl rfl rfl fun a hK => ?_
      iterate 2 (refine s1 hK rfl rfl rfl rfl fun a hK => ?_)
      refine sk hK rfl rfl rfl fun a hK => ?_
      refine sk hK rfl rfl rfl fun a hK => ?_
      refine sk hK rfl rfl rfl fun a hK => ?_
      refine sk hK rfl rfl rfl fun a hK => ?_
      refine sk hK rfl rfl rfl fun a hK => ?_
      refine sk hK rfl rfl rfl fun a hK => ?_
      iterate 2 (refine s1 hK rfl rfl rfl rfl fun a hK => ?_)
      have hK := hK.keep [3] rfl
      refine wpList_nil (nm_then ?_)
      refine wp_ret ?_
      have h := Option.some.inj h
      subst h
      exact finR1 hK rfl (RV.tmp hK rfl) ⟨rfl, hM.ext⟩
    · have h := bif_f hb17 h
      have hK := hK.re (d := 18) rfl (congrArg Value.bool hb17)
      refine s_val hK rfl rfl rfl (r_fa fa44_2 hK rfl rfl) fun a hK => ?_
      refine s_val hK rfl rfl rfl (r_ldb t13 hM 0 hb6 2 hK rfl rfl rfl rfl rfl) fun a hK => ?_
      refine s_val hK rfl rfl rfl (r_fa fa36_2 hK rfl rfl) fun a hK => ?_
      refine s_val hK rfl rfl rfl (r_ld1 t13 (r := []) (hp4.at (hM.a00 hp4.lt1) 2 1 rfl rfl rfl) hK rfl rfl) fun a hK => ?_
      obtain ⟨x18, hx19, h⟩ := obind_some h
      refine s_call hK Try.call23 rfl rfl rfl rfl rfl (c_impl_in fu _ _ _  hx19) fun e20 w21 hR => ?_
      obtain ⟨rfl, hE⟩ := hR
      refine ⟨_, rfl, fun a hK => ?_⟩
      have hM := hM.step hE
      iterate 3 (refine s1 hK rfl rfl rfl rfl fun a hK => ?_)
      refine bsplit (!x18) (fun hb22 => ?_) (fun hb22 => ?_)
      · have h := bif_t hb22 h
        have hK := hK.re (d := 26) rfl (congrArg Value.bool hb22)
        refine sk hK rfl rfl rfl fun a hK => ?_
        refine sk hK rfl rfl rfl fun a hK => ?_
        refine sk hK rfl rfl rfl fun a hK => ?_
        refine sk hK rfl rfl rfl fun a hK => ?_
        refine sk hK rfl rfl rfl fun a hK => ?_
        refine sk hK rfl rfl rfl fun a hK => ?_
        iterate 2 (refine s1 hK rfl rfl rfl rfl fun a hK => ?_)
        have hK := hK.keep [3] rfl
        refine wpList_nil (nm_then ?_)
        refine wp_ret ?_
        have h := Option.some.inj h
        subst h
        exact finR1 hK rfl (RV.tmp hK rfl) ⟨rfl, hM.ext⟩
      · have h := bif_f hb22 h
        have hK := hK.re (d := 26) rfl (congrArg Value.bool hb22)
        refine s_val hK rfl rfl rfl (r_fa fa44_3 hK rfl rfl) fun a hK => ?_
        refine s_val hK rfl rfl rfl (r_ldb t13 hM 0 hb6 3 hK rfl rfl rfl rfl rfl) fun a hK => ?_
        refine s_val hK rfl rfl rfl (r_fa fa36_3 hK rfl rfl) fun a hK => ?_
        refine s_val hK rfl rfl rfl (r_ld1 t13 (r := []) (hp4.at (hM.a00 hp4.lt1) 3 1 rfl rfl rfl) hK rfl rfl) fun a hK => ?_
        obtain ⟨x23, hx24, h⟩ := obind_some h
        refine s_call hK Try.call23 rfl rfl rfl rfl rfl (c_impl_in fu _ _ _  hx24) fun e25 w26 hR => ?_
        obtain ⟨rfl, hE⟩ := hR
        refine ⟨_, rfl, fun a hK => ?_⟩
        have hM := hM.step hE
        iterate 3 (refine s1 hK rfl rfl rfl rfl fun a hK => ?_)
        have hK := hK.keep [3] rfl
        refine wpList_nil (nm_then ?_)
        refine wp_ret ?_
        have h := Option.some.inj h
        subst h
        exact finR1 hK rfl (RV.tmp hK rfl) ⟨rfl, hM.ext⟩

theorem c_slices_IndexFunc_impl_Box_impl_Box (fu : Nat) {w0 : World} (sv1 : List Box) (f5 : Box → Option Bool) {v2 : Value} {F3 : List Nat} (hp4 : rd w0 F3 [v2] sv1) {v6 : Value} (hp7 : FnOk1 Try.prog w0 v6 f5) {r : Int}
    (h : d_slices_IndexFunc_impl_Box_impl_Box fu sv1 f5 = some r) :
    Calls Try.prog 35 #[v2, v6] w0 fun e w => e = .returned (.int .i64 (r)) ∧ Ext [] w0 w := by
  refine enter (vs := [_, _]) Try.func35 rfl Try.ntmps35 rfl fun a hK => ?_
  have hM := St.start w0
  obtain ⟨fid8, cap9, rfl, hcl10, hcc11⟩ := hp7
  unfold d_slices_IndexFunc_impl_Box_impl_Box at h
  refine wp_seq ?_
  refine wp_region_lit ?_
  refine s1 hK rfl rfl rfl rfl fun a hK => ?_
  refine wpList_nil (nm_then ?_)
  refine wp_seq ?_
  refine wp_seq ?_
  refine wp_region_lit ?_
  refine s1 hK rfl rfl rfl rfl fun a hK => ?_
  refine s_val hK rfl rfl rfl (r_len (α := Box) hp4 hK Try.underlying29 rfl rfl) fun a hK => ?_
  refine s1 hK rfl rfl rfl rfl fun a hK => ?_
  refine wpList_nil (nm_then ?_)
  refine wp_block ?_
  refine c_loop (fun n a w => ∃ (x32 : Int), K 19 [(0, v2), (1, (.func (.func fid8) #[] cap9.toArray)), (7, .int .i64 ((sv1.length : Int))), (8, .int .i64 (x32))] a ∧ St [] w0 w [] ∧ d_slices_IndexFunc_impl_Box_impl_Box_L1 fu sv1 f5 n x32 = some r) ?_ ?_ fu _ _ ?_
  · rintro a w ⟨_, _, _, h⟩
    cases (show none = some _ from h)
  · rintro m33 a w31 ⟨x32, hK, hM, h⟩
    rw [d_slices_IndexFunc_impl_Box_impl_Box_L1_s] at h
    unfold d_slices_IndexFunc_impl_Box_impl_Box_L1_B at h
    refine wp_seq ?_
    refine wp_region_lit ?_
    refine s1 hK rfl rfl rfl rfl fun a hK => ?_
    refine wpList_nil (nm_then ?_)
    refine wp_seq ?_
    refine c_cond (b := decide (x32 < ((sv1.length : Int)))) hK rfl (fun hb34 => ?_) (fun hb34 => ?_)
    · have h := bif_t hb34 h
      refine wp_skip (nm_then ?_)
      refine wp_seq ?_
      refine wp_block ?_
      refine wp_seq ?_
      refine wp_region_lit ?_
      iterate 2 (refine s1 hK rfl rfl rfl rfl fun a hK => ?_)
      refine wpList_nil (nm_then ?_)
      refine wp_seq ?_
      refine wp_region_lit ?_
      iterate 3 (refine s1 hK rfl rfl rfl rfl fun a hK => ?_)
      obtain ⟨x35, hx36, h⟩ := obind_some h
      refine s_val hK rfl rfl rfl (r_ixa hp4 hx36 hK ts29 rfl rfl rfl) fun a hK => ?_
      refine s_val hK rfl rfl rfl (r_lde hp4 (hM.a00 (Enc.rd_lt hp4)) hx36 ta44 hK rfl rfl) fun a hK => ?_
      obtain ⟨x37, hx38, h⟩ := obind_some h
      refine s_callv hK hcl10 rfl rfl rfl rfl rfl rfl (hcc11 _ _ _ _ hM.ext rfl hx38) fun e39 w40 hR => ?_
      obtain ⟨rfl, hE⟩ := hR
      refine ⟨_, rfl, fun a hK => ?_⟩
      have hM := hM.step hE
      refine wpList_nil (nm_then ?_)
      refine c_cond (b := x37) hK rfl (fun hb41 => ?_) (fun hb41 => ?_)
      · have h := bif_t hb41 h
        refine wp_seq ?_
        refine wp_region_lit ?_
        iterate 2 (refine s1 hK rfl rfl rfl rfl fun a hK => ?_)
        refine wpList_nil (nm_then ?_)
        refine wp_ret (rt_block (rt_then (rt_then (rt_block (rt_then ?_)))))
        have h := Option.some.inj h
        subst h
        exact finR1 hK rfl (RV.tmp hK rfl) ⟨rfl, hM.ext⟩
      · have h := bif_f hb41 h
        refine wp_skip (nm_block (nm_then ?_))
        refine wp_region_lit ?_
        iterate 2 (refine s1 hK rfl rfl rfl rfl fun a hK => ?_)
        refine wpList_nil (nm_then ?_)
        exact ⟨w64 (x32 + 1), hK.keep [0, 1, 7, 8] rfl, hM.sel [] rfl (by decide), h⟩
    · have h := bif_f hb34 h
      refine wp_exit (ex_then (ex_then (ex_same (nm_then ?_))))
      refine wp_seq ?_
      refine wp_region_lit ?_
      refine s1 hK rfl rfl rfl rfl fun a hK => ?_
      refine wpList_nil (nm_then ?_)
      refine wp_ret ?_
      have h := Option.some.inj h
      subst h
      exact finR1 hK rfl (RV.tmp hK rfl) ⟨rfl, hM.ext⟩
  · exact ⟨0, hK.keep [0, 1, 7, 8] rfl, hM.sel [] rfl (by decide), h⟩

theorem c_slices_ContainsFunc_impl_Box_impl_Box (fu : Nat) {w0 : World} (sv1 : List Box) (f5 : Box → Option Bool) {v2 : Value} {F3 : List Nat} (hp4 : rd w0 F3 [v2] sv1) {v6 : Value} (hp7 : FnOk1 Try.prog w0 v6 f5) {r : Bool}
    (h : d_slices_ContainsFunc_impl_Box_impl_Box fu sv1 f5 = some r) :
    Calls Try.prog 31 #[v2, v6] w0 fun e w => e = .returned (.bool (r)) ∧ Ext [] w0 w := by
  refine enter (vs := [_, _]) Try.func31 rfl Try.ntmps31 rfl fun a hK => ?_
  have hM := St.start w0
  obtain ⟨fid8, cap9, rfl, hcl10, hcc11⟩ := hp7
  unfold d_slices_ContainsFunc_impl_Box_impl_Box at h
  refine wp_seq ?_
  refine wp_region_lit ?_
  refine s1 hK rfl rfl rfl rfl fun a hK => ?_
  refine wpList_nil (nm_then ?_)
  refine wp_seq ?_
  refine wp_region_lit ?_
  iterate 2 (refine s1 hK rfl rfl rfl rfl fun a hK => ?_)
  obtain ⟨x14, hx15, h⟩ := obind_some h
  refine s_call hK Try.call35 rfl rfl rfl rfl rfl (c_slices_IndexFunc_impl_Box_impl_Box fu _ _ (Enc.rd_agr hp4 (hM.a00 (Enc.rd_lt hp4))) ⟨_, _, rfl, hcl10, fun w y12 v13 r hE => hcc11 w y12 v13 r (hM.ext.trans hE (by simp))⟩ hx15) fun e16 w17 hR => ?_
  obtain ⟨rfl, hE⟩ := hR
  refine ⟨_, rfl, fun a hK => ?_⟩
  have hM := hM.step hE
  iterate 2 (refine s1 hK rfl rfl rfl rfl fun a hK => ?_)
  refine wpList_nil (nm_then ?_)
  refine wp_ret ?_
  have h := Option.some.inj h
  subst h
  exact finR1 hK rfl (RV.tmp hK rfl) ⟨rfl, hM.ext⟩

theorem c_impl_BoxesOk (fu : Nat) {w0 : World} (p1 : Pallet) (list2 : List Box) {v3 : Value} {F4 : List Nat} (hp5 : rd w0 F4 [v3] list2) {r : Bool}
    (h : d_impl_BoxesOk fu p1 list2 = some r) :
    Calls Try.prog 28 #[.agg (Flat.e (p1)).toArray, v3] w0 fun e w => e = .returned (.bool (r)) ∧ Ext [] w0 w := by
  refine enter (vs := [_, _]) Try.func28 rfl Try.ntmps28 rfl fun a hK => ?_
  have hM := St.start w0
  unfold d_impl_BoxesOk at h
  refine wp_seq ?_
  refine wp_region_lit ?_
  refine s_box (cs := [.int .i64 (p1.fW), .int .i64 (p1.fD), .int .i64 (p1.fH), .int .i64 (p1.fGram)]) hM hK rfl rfl rfl rfl rfl rfl fun b6 w8 a hK hM hE hb7 => ?_
  refine s1 hK rfl rfl rfl rfl fun a hK => ?_
  refine wpList_nil (nm_then ?_)
  refine wp_seq ?_
  refine wp_region_lit ?_
  refine s_val hK rfl rfl rfl (r_ldB ta36 hM 0 hb7 0 hK rfl rfl rfl rfl rfl rfl) fun a hK => ?_
  obtain ⟨x9, hx10, h⟩ := obind_some h
  refine s_call hK Try.call30 rfl rfl rfl rfl rfl (c_impl_PalletOk fu _  hx10) fun e11 w12 hR => ?_
  obtain ⟨rfl, hE⟩ := hR
  refine ⟨_, rfl, fun a hK => ?_⟩
  have hM := hM.step hE
  refine s1 hK rfl rfl rfl rfl fun a hK => ?_
  refine bsplit (x9) (fun hb13 => ?_) (fun hb13 => ?_)
  · have h := bif_t hb13 h
    have hK := hK.re (d := 7) rfl (congrArg Value.bool hb13)
    iterate 2 (refine s1 hK rfl rfl rfl rfl fun a hK => ?_)
    obtain ⟨x17, hx18, h⟩ := obind_some h
    refine s_call hK Try.call31 rfl rfl rfl rfl rfl (c_slices_ContainsFunc_impl_Box_impl_Box fu _ _ (Enc.rd_agr hp5 (hM.a00 (Enc.rd_lt hp5))) ⟨32, [.pointer (some (⟨b6, 0, none⟩ : Addr))], rfl, Try.call32, fun w y14 v15 r hE hv16 hx => by subst hv16; have hM := hM.step hE; exact c_impl_BoxesOk_1 fu _ _ (hb7.agr (hM.a 0 rfl) (by simp)) hx⟩ hx18) fun e19 w20 hR => ?_
    obtain ⟨rfl, hE⟩ := hR
    refine ⟨_, rfl, fun a hK => ?_⟩
    have hM := hM.step hE
    iterate 3 (refine s1 hK rfl rfl rfl rfl fun a hK => ?_)
    refine wpList_nil (nm_then ?_)
    refine wp_ret ?_
    have h := Option.some.inj h
    subst h
    exact finR1 hK rfl (RV.tmp hK rfl) ⟨rfl, hM.ext⟩
  · have h := bif_f hb13 h
    have hK := hK.re (d := 7) rfl (congrArg Value.bool hb13)
    refine sk hK rfl rfl rfl fun a hK => ?_
    refine sk hK rfl rfl rfl fun a hK => ?_
    refine sk hK rfl rfl rfl fun a hK => ?_
    refine sk hK rfl rfl rfl fun a hK => ?_
    iterate 2 (refine s1 hK rfl rfl rfl rfl fun a hK => ?_)
    refine wpList_nil (nm_then ?_)
    refine wp_ret ?_
    have h := Option.some.inj h
    subst h
    exact finR1 hK rfl (RV.tmp hK rfl) ⟨rfl, hM.ext⟩

theorem c_impl_LayersPromise (fu : Nat) {w0 : World} (p1 : Pallet) (list2 : List Box) (n6 : Int) {v3 : Value} {F4 : List Nat} (hp5 : rd w0 F4 [v3] list2) {r : Int}
    (h : d_impl_LayersPromise fu p1 list2 n6 = some r) :
    Calls Try.prog 19 #[.agg (Flat.e (p1)).toArray, v3, .int .i64 (n6)] w0 fun e w => e = .returned (.int .i64 (r)) ∧ Ext [] w0 w := by
  refine enter (vs := [_, _, _]) Try.func19 rfl Try.ntmps19 rfl fun a hK => ?_
  have hM := St.start w0
  unfold d_impl_LayersPromise at h
  refine wp_seq ?_
  refine wp_region_lit ?_
  refine s_box (cs := [.int .i64 (p1.fW), .int .i64 (p1.fD), .int .i64 (p1.fH), .int .i64 (p1.fGram)]) hM hK rfl rfl rfl rfl rfl rfl fun b7 w9 a hK hM hE hb8 => ?_
  refine s1 hK rfl rfl rfl rfl fun a hK => ?_
  refine wpList_nil (nm_then ?_)
  refine c_cut (fun a w => K 19 [(2, .int .i64 (n6))] a ∧ St [] w0 w [] ∧ d_impl_LayersPromise_J1 fu n6 = some r) ?_ ?_
  · rintro a w20 ⟨hK, hM, h⟩
    unfold d_impl_LayersPromise_J1 at h
    refine wp_seq ?_
    refine wp_region_lit ?_
    iterate 4 (refine s1 hK rfl rfl rfl rfl fun a hK => ?_)
    refine wpList_nil (nm_then ?_)
    refine wp_ret ?_
    have h := Option.some.inj h
    subst h
    exact finR1 hK rfl (RV.tmp hK rfl) ⟨rfl, hM.ext⟩
  · refine wp_seq ?_
    refine wp_region_lit ?_
    refine s_val hK rfl rfl rfl (r_ldB ta36 hM 0 hb8 0 hK rfl rfl rfl rfl rfl rfl) fun a hK => ?_
    refine s1 hK rfl rfl rfl rfl fun a hK => ?_
    obtain ⟨x21, hx22, h⟩ := obind_some h
    refine s_call hK Try.call28 rfl rfl rfl rfl rfl (c_impl_BoxesOk fu _ _ (Enc.rd_agr hp5 (hM.a00 (Enc.rd_lt hp5))) hx22) fun e23 w24 hR => ?_
    obtain ⟨rfl, hE⟩ := hR
    refine ⟨_, rfl, fun a hK => ?_⟩
    have hM := hM.step hE
    iterate 2 (refine s1 hK rfl rfl rfl rfl fun a hK => ?_)
    refine bsplit (!x21) (fun hb25 => ?_) (fun hb25 => ?_)
    · have h := bif_t hb25 h
      have hK := hK.re (d := 11) rfl (congrArg Value.bool hb25)
      refine sk hK rfl rfl rfl fun a hK => ?_
      refine sk hK rfl rfl rfl fun a hK => ?_
      refine sk hK rfl rfl rfl fun a hK => ?_
      refine s1 hK rfl rfl rfl rfl fun a hK => ?_
      refine wpList_nil (nm_then ?_)
      refine wp_cond_true (hK.ev rfl) ?_
      refine wp_seq ?_
      refine wp_region_lit ?_
      refine s1 hK rfl rfl rfl rfl fun a hK => ?_
      refine wpList_nil (nm_then ?_)
      refine wp_ret (rt_then ?_)
      have h := Option.some.inj h
      subst h
      exact finR1 hK rfl (RV.tmp hK rfl) ⟨rfl, hM.ext⟩
    · have h := bif_f hb25 h
      have hK := hK.re (d := 11) rfl (congrArg Value.bool hb25)
      refine s1 hK rfl rfl rfl rfl fun a hK => ?_
      obtain ⟨x26, hx27, h⟩ := obind_some h
      refine s_call hK Try.call23 rfl rfl rfl rfl rfl (c_impl_in fu _ _ _  hx27) fun e28 w29 hR => ?_
      obtain ⟨rfl, hE⟩ := hR
      refine ⟨_, rfl, fun a hK => ?_⟩
      have hM := hM.step hE
      iterate 2 (refine s1 hK rfl rfl rfl rfl fun a hK => ?_)
      refine wpList_nil (nm_then ?_)
      refine c_cond (b := !x26) hK rfl (fun hb30 => ?_) (fun hb30 => ?_)
      · have h := bif_t hb30 h
        refine wp_seq ?_
        refine wp_region_lit ?_
        refine s1 hK rfl rfl rfl rfl fun a hK => ?_
        refine wpList_nil (nm_then ?_)
        refine wp_ret (rt_then ?_)
        have h := Option.some.inj h
        subst h
        exact finR1 hK rfl (RV.tmp hK rfl) ⟨rfl, hM.ext⟩
      · have h := bif_f hb30 h
        refine wp_skip (nm_then ?_)
        exact ⟨hK.keep [2] rfl, hM.sel [] rfl (by decide), h⟩

theorem c_laws_eqBox (fu : Nat) {w0 : World} (a1 : Box) (b2 : Box)  {r : Bool}
    (h : d_laws_eqBox fu a1 b2 = some r) :
    Calls Try.prog 26 #[.agg (Flat.e (a1)).toArray, .agg (Flat.e (b2)).toArray] w0 fun e w => e = .returned (.bool (r)) ∧ Ext [] w0 w := by
  refine enter (vs := [_, _]) Try.func26 rfl Try.ntmps26 rfl fun a hK => ?_
  have hM := St.start w0
  unfold d_laws_eqBox at h
  refine wp_seq ?_
  refine wp_region_lit ?_
  refine s_box (cs := [.int .i64 (a1.fW), .int .i64 (a1.fD), .int .i64 (a1.fH), .int .i64 (a1.fGram)]) hM hK rfl rfl rfl rfl rfl rfl fun b3 w5 a hK hM hE hb4 => ?_
  refine s_box (cs := [.int .i64 (b2.fW), .int .i64 (b2.fD), .int .i64 (b2.fH), .int .i64 (b2.fGram)]) hM hK rfl rfl rfl rfl rfl rfl fun b6 w8 a hK hM hE hb7 => ?_
  refine s1 hK rfl rfl rfl rfl fun a hK => ?_
  refine wpList_nil (nm_then ?_)
  refine wp_seq ?_
  refine wp_seq ?_
  refine wp_region_lit ?_
  refine s_val hK rfl rfl rfl (r_fa fa44_0 hK rfl rfl) fun a hK => ?_
  refine s_val hK rfl rfl rfl (r_ldb t13 hM 1 hb4 0 hK rfl rfl rfl rfl rfl) fun a hK => ?_
  refine s_val hK rfl rfl rfl (r_fa fa44_0 hK rfl rfl) fun a hK => ?_
  refine s_val hK rfl rfl rfl (r_ldb t13 hM 0 hb7 0 hK rfl rfl rfl rfl rfl) fun a hK => ?_
  refine s1 hK rfl rfl rfl rfl fun a hK => ?_
  refine wpList_nil (nm_then ?_)
  refine c_cond (b := a1.fW != b2.fW) hK rfl (fun hb9 => ?_) (fun hb9 => ?_)
  · have h := bif_t hb9 h
    refine wp_seq ?_
    refine wp_region_lit ?_
    refine s1 hK rfl rfl rfl rfl fun a hK => ?_
    refine wpList_nil (nm_then ?_)
    refine wp_ret (rt_then ?_)
    have h := Option.some.inj h
    subst h
    exact finR1 hK rfl (RV.tmp hK rfl) ⟨rfl, hM.ext⟩
  · have h := bif_f hb9 h
    refine wp_skip (nm_then ?_)
    refine wp_seq ?_
    refine wp_seq ?_
    refine wp_region_lit ?_
    refine s_val hK rfl rfl rfl (r_fa fa44_1 hK rfl rfl) fun a hK => ?_
    refine s_val hK rfl rfl rfl (r_ldb t13 hM 1 hb4 1 hK rfl rfl rfl rfl rfl) fun a hK => ?_
    refine s_val hK rfl rfl rfl (r_fa fa44_1 hK rfl rfl) fun a hK => ?_
    refine s_val hK rfl rfl rfl (r_ldb t13 hM 0 hb7 1 hK rfl rfl rfl rfl rfl) fun a hK => ?_
    refine s1 hK rfl rfl rfl rfl fun a hK => ?_
    refine wpList_nil (nm_then ?_)
    refine c_cond (b := a1.fD != b2.fD) hK rfl (fun hb10 => ?_) (fun hb10 => ?_)
    · have h := bif_t hb10 h
      refine wp_seq ?_
      refine wp_region_lit ?_
      refine s1 hK rfl rfl rfl rfl fun a hK => ?_
      refine wpList_nil (nm_then ?_)
      refine wp_ret (rt_then ?_)
      have h := Option.some.inj h
      subst h
      exact finR1 hK rfl (RV.tmp hK rfl) ⟨rfl, hM.ext⟩
    · have h := bif_f hb10 h
      refine wp_skip (nm_then ?_)
      refine wp_seq ?_
      refine wp_seq ?_
      refine wp_region_lit ?_
      refine s_val hK rfl rfl rfl (r_fa fa44_2 hK rfl rfl) fun a hK => ?_
      refine s_val hK rfl rfl rfl (r_ldb t13 hM 1 hb4 2 hK rfl rfl rfl rfl rfl) fun a hK => ?_
      refine s_val hK rfl rfl rfl (r_fa fa44_2 hK rfl rfl) fun a hK => ?_
      refine s_val hK rfl rfl rfl (r_ldb t13 hM 0 hb7 2 hK rfl rfl rfl rfl rfl) fun a hK => ?_
      refine s1 hK rfl rfl rfl rfl fun a hK => ?_
      refine wpList_nil (nm_then ?_)
      refine c_cond (b := a1.fH != b2.fH) hK rfl (fun hb11 => ?_) (fun hb11 => ?_)
      · have h := bif_t hb11 h
        refine wp_seq ?_
        refine wp_region_lit ?_
        refine s1 hK rfl rfl rfl rfl fun a hK => ?_
        refine wpList_nil (nm_then ?_)
        refine wp_ret (rt_then ?_)
        have h := Option.some.inj h
        subst h
        exact finR1 hK rfl (RV.tmp hK rfl) ⟨rfl, hM.ext⟩
      · have h := bif_f hb11 h
        refine wp_skip (nm_then ?_)
        refine wp_seq ?_
        refine wp_seq ?_
        refine wp_region_lit ?_
        refine s_val hK rfl rfl rfl (r_fa fa44_3 hK rfl rfl) fun a hK => ?_
        refine s_val hK rfl rfl rfl (r_ldb t13 hM 1 hb4 3 hK rfl rfl rfl rfl rfl) fun a hK => ?_
        refine s_val hK rfl rfl rfl (r_fa fa44_3 hK rfl rfl) fun a hK => ?_
        refine s_val hK rfl rfl rfl (r_ldb t13 hM 0 hb7 3 hK rfl rfl rfl rfl rfl) fun a hK => ?_
        refine s1 hK rfl rfl rfl rfl fun a hK => ?_
        refine wpList_nil (nm_then ?_)
        refine c_cond (b := a1.fGram != b2.fGram) hK rfl (fun hb12 => ?_) (fun hb12 => ?_)
        · have h := bif_t hb12 h
          refine wp_seq ?_
          refine wp_region_lit ?_
          refine s1 hK rfl rfl rfl rfl fun a hK => ?_
          refine wpList_nil (nm_then ?_)
          refine wp_ret (rt_then ?_)
          have h := Option.some.inj h
          subst h
          exact finR1 hK rfl (RV.tmp hK rfl) ⟨rfl, hM.ext⟩
        · have h := bif_f hb12 h
          refine wp_skip (nm_then ?_)
          refine wp_seq ?_
          refine wp_region_lit ?_
          refine s1 hK rfl rfl rfl rfl fun a hK => ?_
          refine wpList_nil (nm_then ?_)
          refine wp_ret ?_
          have h := Option.some.inj h
          subst h
          exact finR1 hK rfl (RV.tmp hK rfl) ⟨rfl, hM.ext⟩

theorem c_laws_eqBoxS (fu : Nat) {w0 : World} (a1 : List Box) (b5 : List Box) {v2 : Value} {F3 : List Nat} (hp4 : rd w0 F3 [v2] a1) {v6 : Value} {F7 : List Nat} (hp8 : rd w0 F7 [v6] b5) {r : Bool}
    (h : d_laws_eqBoxS fu a1 b5 = some r) :
    Calls Try.prog 16 #[v2, v6] w0 fun e w => e = .returned (.bool (r)) ∧ Ext [] w0 w := by
  refine enter (vs := [_, _]) Try.func16 rfl Try.ntmps16 rfl fun a hK => ?_
  have hM := St.start w0
  unfold d_laws_eqBoxS at h
  refine wp_seq ?_
  refine wp_region_lit ?_
  refine s1 hK rfl rfl rfl rfl fun a hK => ?_
  refine wpList_nil (nm_then ?_)
  refine wp_seq ?_
  refine wp_seq ?_
  refine wp_region_lit ?_
  refine s1 hK rfl rfl rfl rfl fun a hK => ?_
  refine s_val hK rfl rfl rfl (r_len (α := Box) hp4 hK Try.underlying29 rfl rfl) fun a hK => ?_
  refine s1 hK rfl rfl rfl rfl fun a hK => ?_
  refine s_val hK rfl rfl rfl (r_len (α := Box) hp8 hK Try.underlying29 rfl rfl) fun a hK => ?_
  refine s1 hK rfl rfl rfl rfl fun a hK => ?_
  refine wpList_nil (nm_then ?_)
  refine c_cond (b := ((a1.length : Int)) != ((b5.length : Int))) hK rfl (fun hb9 => ?_) (fun hb9 => ?_)
  · have h := bif_t hb9 h
    refine wp_seq ?_
    refine wp_region_lit ?_
    refine s1 hK rfl rfl rfl rfl fun a hK => ?_
    refine wpList_nil (nm_then ?_)
    refine wp_ret (rt_then ?_)
    have h := Option.some.inj h
    subst h
    exact finR1 hK rfl (RV.tmp hK rfl) ⟨rfl, hM.ext⟩
  · have h := bif_f hb9 h
    refine wp_skip (nm_then ?_)
    refine wp_seq ?_
    refine wp_seq ?_
    refine wp_region_lit ?_
    refine s1 hK rfl rfl rfl rfl fun a hK => ?_
    refine wpList_nil (nm_then ?_)
    refine wp_block ?_
    refine c_loop (fun n a w => ∃ (i36 : Int), K 27 [(0, v2), (1, v6), (5, .int .i64 (i36))] a ∧ St [] w0 w [] ∧ d_laws_eqBoxS_L1 fu a1 b5 n i36 = some r) ?_ ?_ fu _ _ ?_
    · rintro a w ⟨_, _, _, h⟩
      cases (show none = some _ from h)
    · rintro m37 a w35 ⟨i36, hK, hM, h⟩
      rw [d_laws_eqBoxS_L1_s] at h
      unfold d_laws_eqBoxS_L1_B at h
      refine wp_seq ?_
      refine wp_seq ?_
      refine wp_region_lit ?_
      iterate 2 (refine s1 hK rfl rfl rfl rfl fun a hK => ?_)
      refine s_val hK rfl rfl rfl (r_len (α := Box) hp4 hK Try.underlying29 rfl rfl) fun a hK => ?_
      refine s1 hK rfl rfl rfl rfl fun a hK => ?_
      refine wpList_nil (nm_then ?_)
      refine c_cond (b := decide (i36 < ((a1.length : Int)))) hK rfl (fun hb38 => ?_) (fun hb38 => ?_)
      · have h := bif_t hb38 h
        refine wp_skip (nm_then ?_)
        refine wp_seq ?_
        refine wp_block ?_
        refine wp_seq ?_
        refine d_go [] mixo hM rfl fun w39 hM => ?_
        have hS := Ext.refl ([] : List Nat) w39
        refine d_pure hK 0 rfl (by kernel_rfl) (by kernel_rfl) (by kernel_rfl) rfl rfl rfl hS (fun _ _ _ h => h) rfl fun a hK => ?_
        refine d_pure hK 1 rfl (by kernel_rfl) (by kernel_rfl) (by kernel_rfl) rfl rfl rfl hS (fun _ _ _ h => h) rfl fun a hK => ?_
        obtain ⟨x40, hx41, h⟩ := obind_some h
        refine d_take hK 2 rfl (by kernel_rfl) (by kernel_rfl) (by kernel_rfl) rfl rfl rfl hS (fun _ _ _ h => h) (fun w hS => have hM := hM.step hS; r_ixa hp4 hx41 hK ts29 rfl rfl rfl) fun a hK => ?_
        refine d_take hK 3 rfl (by kernel_rfl) (by kernel_rfl) (by kernel_rfl) rfl rfl rfl hS (fun _ _ _ h => h) (fun w hS => have hM := hM.step hS; r_lde hp4 (hM.a00 (Enc.rd_lt hp4)) hx41 ta44 hK rfl rfl) fun a hK => ?_
        refine d_pure hK 4 rfl (by kernel_rfl) (by kernel_rfl) (by kernel_rfl) rfl rfl rfl hS (fun _ _ _ h => h) rfl fun a hK => ?_
        refine d_pure hK 5 rfl (by kernel_rfl) (by kernel_rfl) (by kernel_rfl) rfl rfl rfl hS (fun _ _ _ h => h) rfl fun a hK => ?_
        obtain ⟨x42, hx43, h⟩ := obind_some h
        refine d_take hK 6 rfl (by kernel_rfl) (by kernel_rfl) (by kernel_rfl) rfl rfl rfl hS (fun _ _ _ h => h) (fun w hS => have hM := hM.step hS; r_ixa hp8 hx43 hK ts29 rfl rfl rfl) fun a hK => ?_
        refine d_take hK 7 rfl (by kernel_rfl) (by kernel_rfl) (by kernel_rfl) rfl rfl rfl hS (fun _ _ _ h => h) (fun w hS => have hM := hM.step hS; r_lde hp8 (hM.a00 (Enc.rd_lt hp8)) hx43 ta44 hK rfl rfl) fun a hK => ?_
        refine d_one 8 (by kernel_rfl) rfl ?_
        obtain ⟨x44, hx45, h⟩ := obind_some h
        refine s_call hK Try.call26 rfl rfl rfl rfl rfl (c_laws_eqBox fu _ _  hx45) fun e46 w47 hR => ?_
        obtain ⟨rfl, hE⟩ := hR
        refine ⟨_, rfl, fun a hK => ?_⟩
        have hM := hM.step hE
        have hS := hS.trans hE (by simp)
        refine wpList_nil ⟨hS, ?_⟩
        refine d_pure hK 9 rfl (by kernel_rfl) (by kernel_rfl) (by kernel_rfl) rfl rfl rfl hS (fun _ _ _ h => h) rfl fun a hK => ?_
        refine d_done (by kernel_rfl) ?_
        refine (nm_then ?_)
        refine c_cond (b := !x44) hK rfl (fun hb48 => ?_) (fun hb48 => ?_)
        · have h := bif_t hb48 h
          refine wp_seq ?_
          refine wp_region_lit ?_
          refine s1 hK rfl rfl rfl rfl fun a hK => ?_
          refine wpList_nil (nm_then ?_)
          refine wp_ret (rt_block (rt_then (rt_then (rt_block (rt_then ?_)))))
          have h := Option.some.inj h
          subst h
          exact finR1 hK rfl (RV.tmp hK rfl) ⟨rfl, hM.ext⟩
        · have h := bif_f hb48 h
          refine wp_skip (nm_block (nm_then ?_))
          refine wp_region_lit ?_
          iterate 3 (refine s1 hK rfl rfl rfl rfl fun a hK => ?_)
          refine wpList_nil (nm_then ?_)
          exact ⟨w64 (i36 + 1), hK.keep [0, 1, 5] rfl, hM.sel [] rfl (by decide), h⟩
      · have h := bif_f hb38 h
        refine wp_exit (ex_then (ex_then (ex_same (nm_then ?_))))
        refine wp_seq ?_
        refine wp_region_lit ?_
        refine s1 hK rfl rfl rfl rfl fun a hK => ?_
        refine wpList_nil (nm_then ?_)
        refine wp_ret ?_
        have h := Option.some.inj h
        subst h
        exact finR1 hK rfl (RV.tmp hK rfl) ⟨rfl, hM.ext⟩
    · exact ⟨0, hK.keep [0, 1, 5] rfl, hM.sel [] rfl (by decide), h⟩

theorem c_laws_FnExactLayersPromise (fu : Nat) {w0 : World} (aP1 : Pallet) (aList2 : List Box) (aN6 : Int) {v3 : Value} {F4 : List Nat} (hp5 : rd w0 F4 [v3] aList2) {r : Bool}
    (h : d_laws_FnExactLayersPromise fu aP1 aList2 aN6 = some r) :
    Calls Try.prog 6 #[.agg (Flat.e (aP1)).toArray, v3, .int .i64 (aN6)] w0 fun e w => e = .returned (.bool (r)) ∧ Ext [] w0 w := by
  refine enter (vs := [_, _, _]) Try.func6 rfl Try.ntmps6 rfl fun a hK => ?_
  have hM := St.start w0
  unfold d_laws_FnExactLayersPromise at h
  refine wp_seq ?_
  refine wp_region_lit ?_
  refine s_box (cs := [.int .i64 (aP1.fW), .int .i64 (aP1.fD), .int .i64 (aP1.fH), .int .i64 (aP1.fGram)]) hM hK rfl rfl rfl rfl rfl rfl fun b7 w9 a hK hM hE hb8 => ?_
  refine s1 hK rfl rfl rfl rfl fun a hK => ?_
  refine wpList_nil (nm_then ?_)
  refine wp_seq ?_
  refine wp_region_lit ?_
  refine s1 hK rfl rfl rfl rfl fun a hK => ?_
  refine wpList_nil (nm_then ?_)
  refine wp_seq ?_
  refine wp_region_lit ?_
  iterate 2 (refine s1 hK rfl rfl rfl rfl fun a hK => ?_)
  obtain ⟨x10, hx11, h⟩ := obind_some h
  refine s_call hK Try.call12 rfl rfl rfl rfl rfl (c_laws_szBoxS fu _ _ (Enc.rd_agr hp5 (hM.a00 (Enc.rd_lt hp5))) hx11) fun e12 w13 hR => ?_
  obtain ⟨rfl, hE⟩ := hR
  refine ⟨_, rfl, fun a hK => ?_⟩
  have hM := hM.step hE
  refine s1 hK rfl rfl rfl rfl fun a hK => ?_
  refine wpList_nil (nm_then ?_)
  refine wp_seq ?_
  refine wp_seq ?_
  refine wp_region_lit ?_
  iterate 2 (refine s1 hK rfl rfl rfl rfl fun a hK => ?_)
  refine wpList_nil (nm_then ?_)
  refine c_cond (b := decide (x10 < 0)) hK rfl (fun hb14 => ?_) (fun hb14 => ?_)
  · have h := bif_t hb14 h
    refine wp_seq ?_
    refine wp_region_lit ?_
    refine s1 hK rfl rfl rfl rfl fun a hK => ?_
    refine wpList_nil (nm_then ?_)
    refine wp_ret (rt_then ?_)
    have h := Option.some.inj h
    subst h
    exact finR1 hK rfl (RV.tmp hK rfl) ⟨rfl, hM.ext⟩
  · have h := bif_f hb14 h
    refine wp_skip (nm_then ?_)
    refine wp_seq ?_
    refine wp_region_lit ?_
    refine s_val hK rfl rfl rfl (r_ldB ta34 hM 0 hb8 0 hK rfl rfl rfl rfl rfl rfl) fun a hK => ?_
    obtain ⟨x15, hx16, h⟩ := obind_some h
    refine s_call hK Try.call18 rfl rfl rfl rfl rfl (c_laws_toPallet fu _  hx16) fun e17 w18 hR => ?_
    obtain ⟨rfl, hE⟩ := hR
    refine ⟨_, rfl, fun a hK => ?_⟩
    have hM := hM.step hE
    refine s1 hK rfl rfl rfl rfl fun a hK => ?_
    obtain ⟨x19, hx20, h⟩ := obind_some h
    refine s_call hK Try.call14 rfl rfl rfl rfl rfl (c_laws_toBoxS fu _ (Enc.rd_agr hp5 (hM.a00 (Enc.rd_lt hp5))) hx20) fun e21 w22 hR => ?_
    obtain ⟨v27, F23, rfl, hE, hf24, hfr25⟩ := hR
    refine ⟨_, rfl, fun a hK => ?_⟩
    have hM := hM.new hE F23 (fun b hb => ⟨hfr25 b hb, Enc.rd_lt (Enc.ow_rd hf24) b hb⟩) (Enc.ow_nd hf24)
    refine s1 hK rfl rfl rfl rfl fun a hK => ?_
    obtain ⟨x28, hx29, h⟩ := obind_some h
    refine s_call hK Try.call17 rfl rfl rfl rfl rfl (c_spec_LayersPromise fu _ _ _ (Enc.rd_agr (Enc.ow_rd hf24) (hM.a 0 rfl)) hx29) fun e30 w31 hR => ?_
    obtain ⟨rfl, hE⟩ := hR
    refine ⟨_, rfl, fun a hK => ?_⟩
    have hM := hM.step hE
    refine s1 hK rfl rfl rfl rfl fun a hK => ?_
    refine wpList_nil (nm_then ?_)
    refine wp_seq ?_
    refine wp_region_lit ?_
    refine s1 hK rfl rfl rfl rfl fun a hK => ?_
    obtain ⟨x32, hx33, h⟩ := obind_some h
    refine s_call hK Try.call14 rfl rfl rfl rfl rfl (c_laws_toBoxS fu _ (Enc.rd_agr hp5 (hM.a00 (Enc.rd_lt hp5))) hx33) fun e34 w35 hR => ?_
    obtain ⟨v40, F36, rfl, hE, hf37, hfr38⟩ := hR
    refine ⟨_, rfl, fun a hK => ?_⟩
    have hM := hM.new hE F36 (fun b hb => ⟨hfr38 b hb, Enc.rd_lt (Enc.ow_rd hf37) b hb⟩) (Enc.ow_nd hf37)
    refine s1 hK rfl rfl rfl rfl fun a hK => ?_
    refine wpList_nil (nm_then ?_)
    refine wp_seq ?_
    refine wp_region_lit ?_
    refine s_val hK rfl rfl rfl (r_ldB ta34 hM 2 hb8 0 hK rfl rfl rfl rfl rfl rfl) fun a hK => ?_
    obtain ⟨x41, hx42, h⟩ := obind_some h
    refine s_call hK Try.call18 rfl rfl rfl rfl rfl (c_laws_toPallet fu _  hx42) fun e43 w44 hR => ?_
    obtain ⟨rfl, hE⟩ := hR
    refine ⟨_, rfl, fun a hK => ?_⟩
    have hM := hM.step hE
    iterate 2 (refine s1 hK rfl rfl rfl rfl fun a hK => ?_)
    obtain ⟨x45, hx46, h⟩ := obind_some h
    refine s_call hK Try.call19 rfl rfl rfl rfl rfl (c_impl_LayersPromise fu _ _ _ (Enc.rd_agr (Enc.ow_rd hf37) (hM.a 0 rfl)) hx46) fun e47 w48 hR => ?_
    obtain ⟨rfl, hE⟩ := hR
    refine ⟨_, rfl, fun a hK => ?_⟩
    have hM := hM.step hE
    refine s1 hK rfl rfl rfl rfl fun a hK => ?_
    refine wpList_nil (nm_then ?_)
    refine wp_seq ?_
    refine wp_seq ?_
    refine wp_region_lit ?_
    iterate 3 (refine s1 hK rfl rfl rfl rfl fun a hK => ?_)
    refine wpList_nil (nm_then ?_)
    refine c_cond (b := x45 != x28) hK rfl (fun hb49 => ?_) (fun hb49 => ?_)
    · have h := bif_t hb49 h
      refine wp_seq ?_
      refine wp_region_lit ?_
      refine s1 hK rfl rfl rfl rfl fun a hK => ?_
      refine wpList_nil (nm_then ?_)
      refine wp_ret (rt_then ?_)
      have h := Option.some.inj h
      subst h
      exact finR1 hK rfl (RV.tmp hK rfl) ⟨rfl, hM.ext⟩
    · have h := bif_f hb49 h
      refine wp_skip (nm_then ?_)
      refine wp_seq ?_
      refine wp_seq ?_
      refine wp_region_lit ?_
      iterate 2 (refine s1 hK rfl rfl rfl rfl fun a hK => ?_)
      obtain ⟨x50, hx51, h⟩ := obind_some h
      refine s_call hK Try.call14 rfl rfl rfl rfl rfl (c_laws_toBoxS fu _ (Enc.rd_agr hp5 (hM.a00 (Enc.rd_lt hp5))) hx51) fun e52 w53 hR => ?_
      obtain ⟨v58, F54, rfl, hE, hf55, hfr56⟩ := hR
      refine ⟨_, rfl, fun a hK => ?_⟩
      have hM := hM.new hE F54 (fun b hb => ⟨hfr56 b hb, Enc.rd_lt (Enc.ow_rd hf55) b hb⟩) (Enc.ow_nd hf55)
      obtain ⟨x59, hx60, h⟩ := obind_some h
      refine s_call hK Try.call16 rfl rfl rfl rfl rfl (c_laws_eqBoxS fu _ _ (Enc.rd_agr (Enc.ow_rd hf37) (hM.a 1 rfl)) (Enc.rd_agr (Enc.ow_rd hf55) (hM.a 0 rfl)) hx60) fun e61 w62 hR => ?_
      obtain ⟨rfl, hE⟩ := hR
      refine ⟨_, rfl, fun a hK => ?_⟩
      have hM := hM.step hE
      refine s1 hK rfl rfl rfl rfl fun a hK => ?_
      refine wpList_nil (nm_then ?_)
      refine c_cond (b := !x59) hK rfl (fun hb63 => ?_) (fun hb63 => ?_)
      · have h := bif_t hb63 h
        refine wp_seq ?_
        refine wp_region_lit ?_
        refine s1 hK rfl rfl rfl rfl fun a hK => ?_
        refine wpList_nil (nm_then ?_)
        refine wp_ret (rt_then ?_)
        have h := Option.some.inj h
        subst h
        exact finR1 hK rfl (RV.tmp hK rfl) ⟨rfl, hM.ext⟩
      · have h := bif_f hb63 h
        refine wp_skip (nm_then ?_)
        refine wp_seq ?_
        refine wp_region_lit ?_
        refine s1 hK rfl rfl rfl rfl fun a hK => ?_
        refine wpList_nil (nm_then ?_)
        refine wp_ret ?_
        have h := Option.some.inj h
        subst h
        exact finR1 hK rfl (RV.tmp hK rfl) ⟨rfl, hM.ext⟩

end Go.Proofs.Ytfhmhbcnijlfaaa
