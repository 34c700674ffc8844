/- Printed by gen.py. -/
import Derived.Test.YtfhmhbcnijlfaaaProg
import Derived.Test.YtfhmhbcnijlfaaaD0
set_option maxRecDepth 20000
set_option linter.unusedVariables false
namespace Go.Proofs.Ytfhmhbcnijlfaaa
open Go Go.RowKit
open Enc (rd ow)
open Arg (argv)
open Ret (retv)

theorem mixo : Try.prog.follows .mixedOrders = true := by kernel_rfl
theorem te41 : TE Try.prog 41 1 16 [.string ⟨#[]⟩] := ⟨9, Try.t9, Try.underlying41, Try.type9, ⟨_, rfl, rfl⟩, rfl, rfl, rfl, by decide⟩
theorem ts41 : TS Try.prog 41 1 := ⟨9, Try.underlying41, Try.sizeOf9⟩
theorem t19 : T1 Try.prog 9 := ⟨fun w => by simp [isAgg, run_underlying Try.underlying9], Try.sizeOf9⟩

def d_spec_l1In (fu : Nat) (x1 : Int) (lo2 : Int) (hi3 : Int) : Option (Bool) :=
  bif (decide (x1 ≥ lo2)) then some (decide (x1 ≤ hi3)) else some (false)

def d_impl_in (fu : Nat) (n1 : Int) (lo2 : Int) (hi3 : Int) : Option (Bool) :=
  bif (decide (n1 ≥ lo2)) then some (decide (n1 ≤ hi3)) else some (false)

def d_spec_CheckText (fu : Nat) (kv1 : Int) : Option (ByteArray) :=
  obind (d_spec_l1In fu kv1 0 (w64 ((((([(⟨#[111, 107]⟩ : ByteArray), (⟨#[111, 114, 100, 101, 114]⟩ : ByteArray), (⟨#[112, 108, 97, 110]⟩ : ByteArray), (⟨#[117, 110, 105, 116, 115]⟩ : ByteArray), (⟨#[104, 111, 108, 100, 115]⟩ : ByteArray), (⟨#[103, 114, 111, 117, 112]⟩ : ByteArray), (⟨#[99, 104, 101, 97, 112]⟩ : ByteArray), (⟨#[105, 110, 115, 105, 100, 101]⟩ : ByteArray), (⟨#[111, 118, 101, 114, 108, 97, 112]⟩ : ByteArray), (⟨#[112, 97, 108, 108, 101, 116]⟩ : ByteArray)] : List ByteArray)).length : Int)) - 1))) fun x7 => bif (!x7) then some ((⟨#[]⟩ : ByteArray)) else obind (ix (([(⟨#[111, 107]⟩ : ByteArray), (⟨#[111, 114, 100, 101, 114]⟩ : ByteArray), (⟨#[112, 108, 97, 110]⟩ : ByteArray), (⟨#[117, 110, 105, 116, 115]⟩ : ByteArray), (⟨#[104, 111, 108, 100, 115]⟩ : ByteArray), (⟨#[103, 114, 111, 117, 112]⟩ : ByteArray), (⟨#[99, 104, 101, 97, 112]⟩ : ByteArray), (⟨#[105, 110, 115, 105, 100, 101]⟩ : ByteArray), (⟨#[111, 118, 101, 114, 108, 97, 112]⟩ : ByteArray), (⟨#[112, 97, 108, 108, 101, 116]⟩ : ByteArray)] : List ByteArray)) kv1) fun x12 => some (x12)

def d_impl_CheckText (fu : Nat) (kv1 : Int) : Option (ByteArray) :=
  obind (d_impl_in fu kv1 0 (w64 ((((([(⟨#[111, 107]⟩ : ByteArray), (⟨#[111, 114, 100, 101, 114]⟩ : ByteArray), (⟨#[112, 108, 97, 110]⟩ : ByteArray), (⟨#[117, 110, 105, 116, 115]⟩ : ByteArray), (⟨#[104, 111, 108, 100, 115]⟩ : ByteArray), (⟨#[103, 114, 111, 117, 112]⟩ : ByteArray), (⟨#[99, 104, 101, 97, 112]⟩ : ByteArray), (⟨#[105, 110, 115, 105, 100, 101]⟩ : ByteArray), (⟨#[111, 118, 101, 114, 108, 97, 112]⟩ : ByteArray), (⟨#[112, 97, 108, 108, 101, 116]⟩ : ByteArray)] : List ByteArray)).length : Int)) - 1))) fun x7 => bif (!x7) then some ((⟨#[]⟩ : ByteArray)) else obind (ix (([(⟨#[111, 107]⟩ : ByteArray), (⟨#[111, 114, 100, 101, 114]⟩ : ByteArray), (⟨#[112, 108, 97, 110]⟩ : ByteArray), (⟨#[117, 110, 105, 116, 115]⟩ : ByteArray), (⟨#[104, 111, 108, 100, 115]⟩ : ByteArray), (⟨#[103, 114, 111, 117, 112]⟩ : ByteArray), (⟨#[99, 104, 101, 97, 112]⟩ : ByteArray), (⟨#[105, 110, 115, 105, 100, 101]⟩ : ByteArray), (⟨#[111, 118, 101, 114, 108, 97, 112]⟩ : ByteArray), (⟨#[112, 97, 108, 108, 101, 116]⟩ : ByteArray)] : List ByteArray)) kv1) fun x12 => some (x12)

def d_laws_FnExactCheckText (fu : Nat) (aK1 : Int) : Option (Bool) :=
  obind (d_spec_CheckText fu aK1) fun x2 => obind (d_impl_CheckText fu aK1) fun x6 => bif (!(x6.toList == x2.toList)) then some (false) else some (true)

def d_spec_LabelSum_J10 (fu : Nat) (k8 : Int → Int → Option (Int)) (i101 : Int) (n124 : Int) : Option (Int) :=
  k8 n124 (w64 (i101 + 1))

def d_spec_LabelSum_J11 (fu : Nat) (k8 : Int → Int → Option (Int)) (sv1 : ByteArray) (n100 : Int) (i101 : Int)  : Option (Int) :=
  obind (sx sv1 i101) fun c140 => d_spec_LabelSum_J10 fu k8 i101 (Int.tmod (w64 ((w64 ((w64 (10 * n100)) + (w64 c140))) - 48)) 97)

def d_spec_LabelSum_L8_B (fu : Nat)  (sv1 : ByteArray) (k8 : Int → Int → Option (Int)) (n100 : Int) (i101 : Int) : Option (Int) :=
  bif (decide (i101 < ((sv1.size : Int)))) then obind (sx sv1 i101) fun c142 => bif (decide (c142 < 48)) then some ((-1)) else obind (sx sv1 i101) fun c145 => bif (decide (c145 > 57)) then some ((-1)) else d_spec_LabelSum_J11 fu k8 sv1 n100 i101 else some (n100)
def d_spec_LabelSum_L8 (fu : Nat)  (sv1 : ByteArray) : Nat → Int → Int → Option (Int)
  | 0 => fun _ _ => none
  | n + 1 => d_spec_LabelSum_L8_B fu sv1 (d_spec_LabelSum_L8 fu sv1 n)
theorem d_spec_LabelSum_L8_s (fu : Nat)  (sv1 : ByteArray) (n : Nat) : d_spec_LabelSum_L8 fu sv1 (n + 1) = d_spec_LabelSum_L8_B fu sv1 (d_spec_LabelSum_L8 fu sv1 n) := rfl

def d_spec_LabelSum_J1 (fu : Nat) (sv1 : ByteArray)  : Option (Int) :=
  d_spec_LabelSum_L8 fu sv1 fu 0 0

def d_spec_LabelSum (fu : Nat) (sv1 : ByteArray) : Option (Int) :=
  bif (((sv1.size : Int)) == 0) then some ((-1)) else bif (decide (((sv1.size : Int)) > 40)) then some ((-1)) else d_spec_LabelSum_J1 fu sv1

def d_impl_LabelSum_J9 (fu : Nat) (k7 : Int → Int → Option (Int)) (x103 : Int) (n126 : Int) : Option (Int) :=
  k7 n126 (w64 (x103 + 1))

def d_impl_LabelSum_J10 (fu : Nat) (k7 : Int → Int → Option (Int)) (sv1 : ByteArray) (n102 : Int) (x103 : Int)  : Option (Int) :=
  obind (sx sv1 x103) fun c142 => d_impl_LabelSum_J9 fu k7 x103 (Int.tmod (w64 ((w64 (10 * n102)) + (w64 (w8 (c142 - 48))))) 97)

def d_impl_LabelSum_L7_B (fu : Nat)  (sv1 : ByteArray) (k7 : Int → Int → Option (Int)) (n102 : Int) (x103 : Int) : Option (Int) :=
  bif (decide (x103 < ((sv1.size : Int)))) then obind (sx sv1 x103) fun c144 => bif (decide (c144 < 48)) then some ((-1)) else obind (sx sv1 x103) fun c147 => bif (decide (c147 > 57)) then some ((-1)) else d_impl_LabelSum_J10 fu k7 sv1 n102 x103 else some (n102)
def d_impl_LabelSum_L7 (fu : Nat)  (sv1 : ByteArray) : Nat → Int → Int → Option (Int)
  | 0 => fun _ _ => none
  | n + 1 => d_impl_LabelSum_L7_B fu sv1 (d_impl_LabelSum_L7 fu sv1 n)
theorem d_impl_LabelSum_L7_s (fu : Nat)  (sv1 : ByteArray) (n : Nat) : d_impl_LabelSum_L7 fu sv1 (n + 1) = d_impl_LabelSum_L7_B fu sv1 (d_impl_LabelSum_L7 fu sv1 n) := rfl

def d_impl_LabelSum (fu : Nat) (sv1 : ByteArray) : Option (Int) :=
  obind (d_impl_in fu ((sv1.size : Int)) 1 40) fun x2 => bif (!x2) then some ((-1)) else d_impl_LabelSum_L7 fu sv1 fu 0 0

def d_laws_FnExactLabelSum (fu : Nat) (aS1 : ByteArray) : Option (Bool) :=
  bif (decide (((aS1.size : Int)) > 1048576)) then some (true) else obind (d_spec_LabelSum fu aS1) fun x3 => obind (d_impl_LabelSum fu aS1) fun x7 => bif (x7 != x3) then some (false) else some (true)

theorem c_spec_l1In (fu : Nat) {w0 : World} (x1 : Int) (lo2 : Int) (hi3 : Int)  {r : Bool}
    (h : d_spec_l1In fu x1 lo2 hi3 = some r) :
    Calls Try.prog 22 #[.int .i64 (x1), .int .i64 (lo2), .int .i64 (hi3)] w0 fun e w => e = .returned (.bool (r)) ∧ Ext [] w0 w := by
  refine enter (vs := [_, _, _]) Try.func22 rfl Try.ntmps22 rfl fun a hK => ?_
  have hM := St.start w0
  unfold d_spec_l1In at h
  refine wp_seq ?_
  refine wp_region_lit ?_
  refine s1 hK rfl rfl rfl rfl fun a hK => ?_
  refine wpList_nil (nm_then ?_)
  refine wp_seq ?_
  refine wp_region_lit ?_
  iterate 4 (refine s1 hK rfl rfl rfl rfl fun a hK => ?_)
  refine bsplit (decide (x1 ≥ lo2)) (fun hb4 => ?_) (fun hb4 => ?_)
  · have h := bif_t hb4 h
    have hK := hK.re (d := 10) rfl (congrArg Value.bool hb4)
    iterate 5 (refine s1 hK rfl rfl rfl rfl fun a hK => ?_)
    refine wpList_nil (nm_then ?_)
    refine wp_ret ?_
    have h := Option.some.inj h
    subst h
    exact finR1 hK rfl (RV.tmp hK rfl) ⟨rfl, hM.ext⟩
  · have h := bif_f hb4 h
    have hK := hK.re (d := 10) rfl (congrArg Value.bool hb4)
    refine sk hK rfl rfl rfl fun a hK => ?_
    refine sk hK rfl rfl rfl fun a hK => ?_
    refine sk hK rfl rfl rfl fun a hK => ?_
    iterate 2 (refine s1 hK rfl rfl rfl rfl fun a hK => ?_)
    refine wpList_nil (nm_then ?_)
    refine wp_ret ?_
    have h := Option.some.inj h
    subst h
    exact finR1 hK rfl (RV.tmp hK rfl) ⟨rfl, hM.ext⟩

theorem c_impl_in (fu : Nat) {w0 : World} (n1 : Int) (lo2 : Int) (hi3 : Int)  {r : Bool}
    (h : d_impl_in fu n1 lo2 hi3 = some r) :
    Calls Try.prog 23 #[.int .i64 (n1), .int .i64 (lo2), .int .i64 (hi3)] w0 fun e w => e = .returned (.bool (r)) ∧ Ext [] w0 w := by
  refine enter (vs := [_, _, _]) Try.func23 rfl Try.ntmps23 rfl fun a hK => ?_
  have hM := St.start w0
  unfold d_impl_in at h
  refine wp_seq ?_
  refine wp_region_lit ?_
  refine s1 hK rfl rfl rfl rfl fun a hK => ?_
  refine wpList_nil (nm_then ?_)
  refine wp_seq ?_
  refine wp_region_lit ?_
  iterate 4 (refine s1 hK rfl rfl rfl rfl fun a hK => ?_)
  refine bsplit (decide (n1 ≥ lo2)) (fun hb4 => ?_) (fun hb4 => ?_)
  · have h := bif_t hb4 h
    have hK := hK.re (d := 10) rfl (congrArg Value.bool hb4)
    iterate 5 (refine s1 hK rfl rfl rfl rfl fun a hK => ?_)
    refine wpList_nil (nm_then ?_)
    refine wp_ret ?_
    have h := Option.some.inj h
    subst h
    exact finR1 hK rfl (RV.tmp hK rfl) ⟨rfl, hM.ext⟩
  · have h := bif_f hb4 h
    have hK := hK.re (d := 10) rfl (congrArg Value.bool hb4)
    refine sk hK rfl rfl rfl fun a hK => ?_
    refine sk hK rfl rfl rfl fun a hK => ?_
    refine sk hK rfl rfl rfl fun a hK => ?_
    iterate 2 (refine s1 hK rfl rfl rfl rfl fun a hK => ?_)
    refine wpList_nil (nm_then ?_)
    refine wp_ret ?_
    have h := Option.some.inj h
    subst h
    exact finR1 hK rfl (RV.tmp hK rfl) ⟨rfl, hM.ext⟩

theorem c_spec_CheckText (fu : Nat) {w0 : World} (kv1 : Int)  {r : ByteArray}
    (h : d_spec_CheckText fu kv1 = some r) :
    Calls Try.prog 8 #[.int .i64 (kv1)] w0 fun e w => e = .returned (.string (r)) ∧ Ext [] w0 w := by
  refine enter (vs := [_]) Try.func8 rfl Try.ntmps8 rfl fun a hK => ?_
  have hM := St.start w0
  unfold d_spec_CheckText at h
  refine wp_seq ?_
  refine wp_region_lit ?_
  refine s1 hK rfl rfl rfl rfl fun a hK => ?_
  refine wpList_nil (nm_then ?_)
  refine wp_seq ?_
  refine wp_region_lit ?_
  refine s_bs (cs := [.string ((⟨#[111, 107]⟩ : ByteArray)), .string ((⟨#[111, 114, 100, 101, 114]⟩ : ByteArray)), .string ((⟨#[112, 108, 97, 110]⟩ : ByteArray)), .string ((⟨#[117, 110, 105, 116, 115]⟩ : ByteArray)), .string ((⟨#[104, 111, 108, 100, 115]⟩ : ByteArray)), .string ((⟨#[103, 114, 111, 117, 112]⟩ : ByteArray)), .string ((⟨#[99, 104, 101, 97, 112]⟩ : ByteArray)), .string ((⟨#[105, 110, 115, 105, 100, 101]⟩ : ByteArray)), .string ((⟨#[111, 118, 101, 114, 108, 97, 112]⟩ : ByteArray)), .string ((⟨#[112, 97, 108, 108, 101, 116]⟩ : ByteArray))]) (ps := [(0, .const (.string ((⟨#[111, 107]⟩ : ByteArray)))), (1, .const (.string ((⟨#[111, 114, 100, 101, 114]⟩ : ByteArray)))), (2, .const (.string ((⟨#[112, 108, 97, 110]⟩ : ByteArray)))), (3, .const (.string ((⟨#[117, 110, 105, 116, 115]⟩ : ByteArray)))), (4, .const (.string ((⟨#[104, 111, 108, 100, 115]⟩ : ByteArray)))), (5, .const (.string ((⟨#[103, 114, 111, 117, 112]⟩ : ByteArray)))), (6, .const (.string ((⟨#[99, 104, 101, 97, 112]⟩ : ByteArray)))), (7, .const (.string ((⟨#[105, 110, 115, 105, 100, 101]⟩ : ByteArray)))), (8, .const (.string ((⟨#[111, 118, 101, 114, 108, 97, 112]⟩ : ByteArray)))), (9, .const (.string ((⟨#[112, 97, 108, 108, 101, 116]⟩ : ByteArray))))]) te41 hM hK rfl rfl rfl rfl rfl rfl rfl (by decide) rfl (by decide) fun g2 w3 e5 a hK hM hE hb4 => ?_
  have hf6 := ow_bx hb4 ([(⟨#[111, 107]⟩ : ByteArray), (⟨#[111, 114, 100, 101, 114]⟩ : ByteArray), (⟨#[112, 108, 97, 110]⟩ : ByteArray), (⟨#[117, 110, 105, 116, 115]⟩ : ByteArray), (⟨#[104, 111, 108, 100, 115]⟩ : ByteArray), (⟨#[103, 114, 111, 117, 112]⟩ : ByteArray), (⟨#[99, 104, 101, 97, 112]⟩ : ByteArray), (⟨#[105, 110, 115, 105, 100, 101]⟩ : ByteArray), (⟨#[111, 118, 101, 114, 108, 97, 112]⟩ : ByteArray), (⟨#[112, 97, 108, 108, 101, 116]⟩ : ByteArray)] : List ByteArray) rfl rfl rfl
  refine s1 hK rfl rfl rfl rfl fun a hK => ?_
  refine wpList_nil (nm_then ?_)
  refine wp_seq ?_
  refine wp_seq ?_
  refine wp_region_lit ?_
  iterate 2 (refine s1 hK rfl rfl rfl rfl fun a hK => ?_)
  refine s_val hK rfl rfl rfl (r_len (α := ByteArray) (Enc.ow_rd hf6) hK Try.underlying41 rfl rfl) fun a hK => ?_
  refine s1 hK rfl rfl rfl rfl fun a hK => ?_
  obtain ⟨x7, hx8, h⟩ := obind_some h
  refine s_call hK Try.call22 rfl rfl rfl rfl rfl (c_spec_l1In fu _ _ _  hx8) fun e9 w10 hR => ?_
  obtain ⟨rfl, hE⟩ := hR
  refine ⟨_, rfl, fun a hK => ?_⟩
  have hM := hM.step hE
  refine s1 hK rfl rfl rfl rfl fun a hK => ?_
  refine wpList_nil (nm_then ?_)
  refine c_cond (b := !x7) hK rfl (fun hb11 => ?_) (fun hb11 => ?_)
  · have h := bif_t hb11 h
    refine wp_seq ?_
    refine wp_region_lit ?_
    refine s1 hK rfl rfl rfl rfl fun a hK => ?_
    refine wpList_nil (nm_then ?_)
    refine wp_ret (rt_then ?_)
    have h := Option.some.inj h
    subst h
    exact finR1 hK rfl (RV.tmp hK rfl) ⟨rfl, hM.ext⟩
  · have h := bif_f hb11 h
    refine wp_skip (nm_then ?_)
    refine wp_seq ?_
    refine wp_region_lit ?_
    iterate 2 (refine s1 hK rfl rfl rfl rfl fun a hK => ?_)
    obtain ⟨x12, hx13, h⟩ := obind_some h
    refine s_val hK rfl rfl rfl (r_ixa (Enc.ow_rd hf6) hx13 hK ts41 rfl rfl rfl) fun a hK => ?_
    refine s_val hK rfl rfl rfl (r_lde1 (Enc.ow_rd hf6) (hM.a 0 rfl) hx13 0 t19 hK rfl rfl rfl rfl) fun a hK => ?_
    refine s1 hK rfl rfl rfl rfl fun a hK => ?_
    refine wpList_nil (nm_then ?_)
    refine wp_ret ?_
    have h := Option.some.inj h
    subst h
    exact finR1 hK rfl (RV.tmp hK rfl) ⟨rfl, hM.ext⟩

theorem c_impl_CheckText (fu : Nat) {w0 : World} (kv1 : Int)  {r : ByteArray}
    (h : d_impl_CheckText fu kv1 = some r) :
    Calls Try.prog 9 #[.int .i64 (kv1)] w0 fun e w => e = .returned (.string (r)) ∧ Ext [] w0 w := by
  refine enter (vs := [_]) Try.func9 rfl Try.ntmps9 rfl fun a hK => ?_
  have hM := St.start w0
  unfold d_impl_CheckText at h
  refine wp_seq ?_
  refine wp_region_lit ?_
  refine s1 hK rfl rfl rfl rfl fun a hK => ?_
  refine wpList_nil (nm_then ?_)
  refine wp_seq ?_
  refine wp_region_lit ?_
  refine s_bs (cs := [.string ((⟨#[111, 107]⟩ : ByteArray)), .string ((⟨#[111, 114, 100, 101, 114]⟩ : ByteArray)), .string ((⟨#[112, 108, 97, 110]⟩ : ByteArray)), .string ((⟨#[117, 110, 105, 116, 115]⟩ : ByteArray)), .string ((⟨#[104, 111, 108, 100, 115]⟩ : ByteArray)), .string ((⟨#[103, 114, 111, 117, 112]⟩ : ByteArray)), .string ((⟨#[99, 104, 101, 97, 112]⟩ : ByteArray)), .string ((⟨#[105, 110, 115, 105, 100, 101]⟩ : ByteArray)), .string ((⟨#[111, 118, 101, 114, 108, 97, 112]⟩ : ByteArray)), .string ((⟨#[112, 97, 108, 108, 101, 116]⟩ : ByteArray))]) (ps := [(0, .const (.string ((⟨#[111, 107]⟩ : ByteArray)))), (1, .const (.string ((⟨#[111, 114, 100, 101, 114]⟩ : ByteArray)))), (2, .const (.string ((⟨#[112, 108, 97, 110]⟩ : ByteArray)))), (3, .const (.string ((⟨#[117, 110, 105, 116, 115]⟩ : ByteArray)))), (4, .const (.string ((⟨#[104, 111, 108, 100, 115]⟩ : ByteArray)))), (5, .const (.string ((⟨#[103, 114, 111, 117, 112]⟩ : ByteArray)))), (6, .const (.string ((⟨#[99, 104, 101, 97, 112]⟩ : ByteArray)))), (7, .const (.string ((⟨#[105, 110, 115, 105, 100, 101]⟩ : ByteArray)))), (8, .const (.string ((⟨#[111, 118, 101, 114, 108, 97, 112]⟩ : ByteArray)))), (9, .const (.string ((⟨#[112, 97, 108, 108, 101, 116]⟩ : ByteArray))))]) te41 hM hK rfl rfl rfl rfl rfl rfl rfl (by decide) rfl (by decide) fun g2 w3 e5 a hK hM hE hb4 => ?_
  have hf6 := ow_bx hb4 ([(⟨#[111, 107]⟩ : ByteArray), (⟨#[111, 114, 100, 101, 114]⟩ : ByteArray), (⟨#[112, 108, 97, 110]⟩ : ByteArray), (⟨#[117, 110, 105, 116, 115]⟩ : ByteArray), (⟨#[104, 111, 108, 100, 115]⟩ : ByteArray), (⟨#[103, 114, 111, 117, 112]⟩ : ByteArray), (⟨#[99, 104, 101, 97, 112]⟩ : ByteArray), (⟨#[105, 110, 115, 105, 100, 101]⟩ : ByteArray), (⟨#[111, 118, 101, 114, 108, 97, 112]⟩ : ByteArray), (⟨#[112, 97, 108, 108, 101, 116]⟩ : ByteArray)] : List ByteArray) rfl rfl rfl
  refine s1 hK rfl rfl rfl rfl fun a hK => ?_
  refine wpList_nil (nm_then ?_)
  refine wp_seq ?_
  refine wp_seq ?_
  refine wp_region_lit ?_
  iterate 2 (refine s1 hK rfl rfl rfl rfl fun a hK => ?_)
  refine s_val hK rfl rfl rfl (r_len (α := ByteArray) (Enc.ow_rd hf6) hK Try.underlying41 rfl rfl) fun a hK => ?_
  refine s1 hK rfl rfl rfl rfl fun a hK => ?_
  obtain ⟨x7, hx8, h⟩ := obind_some h
  refine s_call hK Try.call23 rfl rfl rfl rfl rfl (c_impl_in fu _ _ _  hx8) fun e9 w10 hR => ?_
  obtain ⟨rfl, hE⟩ := hR
  refine ⟨_, rfl, fun a hK => ?_⟩
  have hM := hM.step hE
  refine s1 hK rfl rfl rfl rfl fun a hK => ?_
  refine wpList_nil (nm_then ?_)
  refine c_cond (b := !x7) hK rfl (fun hb11 => ?_) (fun hb11 => ?_)
  · have h := bif_t hb11 h
    refine wp_seq ?_
    refine wp_region_lit ?_
    refine s1 hK rfl rfl rfl rfl fun a hK => ?_
    refine wpList_nil (nm_then ?_)
    refine wp_ret (rt_then ?_)
    have h := Option.some.inj h
    subst h
    exact finR1 hK rfl (RV.tmp hK rfl) ⟨rfl, hM.ext⟩
  · have h := bif_f hb11 h
    refine wp_skip (nm_then ?_)
    refine wp_seq ?_
    refine wp_region_lit ?_
    iterate 2 (refine s1 hK rfl rfl rfl rfl fun a hK => ?_)
    obtain ⟨x12, hx13, h⟩ := obind_some h
    refine s_val hK rfl rfl rfl (r_ixa (Enc.ow_rd hf6) hx13 hK ts41 rfl rfl rfl) fun a hK => ?_
    refine s_val hK rfl rfl rfl (r_lde1 (Enc.ow_rd hf6) (hM.a 0 rfl) hx13 0 t19 hK rfl rfl rfl rfl) fun a hK => ?_
    refine s1 hK rfl rfl rfl rfl fun a hK => ?_
    refine wpList_nil (nm_then ?_)
    refine wp_ret ?_
    have h := Option.some.inj h
    subst h
    exact finR1 hK rfl (RV.tmp hK rfl) ⟨rfl, hM.ext⟩

theorem c_laws_FnExactCheckText (fu : Nat) {w0 : World} (aK1 : Int)  {r : Bool}
    (h : d_laws_FnExactCheckText fu aK1 = some r) :
    Calls Try.prog 3 #[.int .i64 (aK1)] w0 fun e w => e = .returned (.bool (r)) ∧ Ext [] w0 w := by
  refine enter (vs := [_]) Try.func3 rfl Try.ntmps3 rfl fun a hK => ?_
  have hM := St.start w0
  unfold d_laws_FnExactCheckText at h
  refine wp_seq ?_
  refine wp_region_lit ?_
  refine s1 hK rfl rfl rfl rfl fun a hK => ?_
  refine wpList_nil (nm_then ?_)
  refine wp_seq ?_
  refine wp_region_lit ?_
  refine s1 hK rfl rfl rfl rfl fun a hK => ?_
  obtain ⟨x2, hx3, h⟩ := obind_some h
  refine s_call hK Try.call8 rfl rfl rfl rfl rfl (c_spec_CheckText fu _  hx3) fun e4 w5 hR => ?_
  obtain ⟨rfl, hE⟩ := hR
  refine ⟨_, rfl, fun a hK => ?_⟩
  have hM := hM.step hE
  refine s1 hK rfl rfl rfl rfl fun a hK => ?_
  refine wpList_nil (nm_then ?_)
  refine wp_seq ?_
  refine wp_region_lit ?_
  refine s1 hK rfl rfl rfl rfl fun a hK => ?_
  obtain ⟨x6, hx7, h⟩ := obind_some h
  refine s_call hK Try.call9 rfl rfl rfl rfl rfl (c_impl_CheckText fu _  hx7) fun e8 w9 hR => ?_
  obtain ⟨rfl, hE⟩ := hR
  refine ⟨_, rfl, fun a hK => ?_⟩
  have hM := hM.step hE
  refine s1 hK rfl rfl rfl rfl fun a hK => ?_
  refine wpList_nil (nm_then ?_)
  refine wp_seq ?_
  refine wp_seq ?_
  refine wp_region_lit ?_
  iterate 3 (refine s1 hK rfl rfl rfl rfl fun a hK => ?_)
  refine wpList_nil (nm_then ?_)
  refine c_cond (b := !(x6.toList == x2.toList)) hK rfl (fun hb10 => ?_) (fun hb10 => ?_)
  · have h := bif_t hb10 h
    refine wp_seq ?_
    refine wp_region_lit ?_
    refine s1 hK rfl rfl rfl rfl fun a hK => ?_
    refine wpList_nil (nm_then ?_)
    refine wp_ret (rt_then ?_)
    have h := Option.some.inj h
    subst h
    exact finR1 hK rfl (RV.tmp hK rfl) ⟨rfl, hM.ext⟩
  · have h := bif_f hb10 h
    refine wp_skip (nm_then ?_)
    refine wp_seq ?_
    refine wp_region_lit ?_
    refine s1 hK rfl rfl rfl rfl fun a hK => ?_
    refine wpList_nil (nm_then ?_)
    refine wp_ret ?_
    have h := Option.some.inj h
    subst h
    exact finR1 hK rfl (RV.tmp hK rfl) ⟨rfl, hM.ext⟩

theorem c_spec_LabelSum (fu : Nat) {w0 : World} (sv1 : ByteArray)  {r : Int}
    (h : d_spec_LabelSum fu sv1 = some r) :
    Calls Try.prog 10 #[.string (sv1)] w0 fun e w => e = .returned (.int .i64 (r)) ∧ Ext [] w0 w := by
  refine enter (vs := [_]) Try.func10 rfl Try.ntmps10 rfl fun a hK => ?_
  have hM := St.start w0
  unfold d_spec_LabelSum at h
  refine wp_seq ?_
  refine wp_region_lit ?_
  refine s1 hK rfl rfl rfl rfl fun a hK => ?_
  refine wpList_nil (nm_then ?_)
  refine c_cut (fun a w => K 39 [(0, .string (sv1))] a ∧ St [] w0 w [] ∧ d_spec_LabelSum_J1 fu sv1 = some r) ?_ ?_
  · rintro a w4 ⟨hK, hM, h⟩
    unfold d_spec_LabelSum_J1 at h
    refine wp_seq ?_
    refine wp_region_lit ?_
    refine s1 hK rfl rfl rfl rfl fun a hK => ?_
    refine wpList_nil (nm_then ?_)
    refine wp_seq ?_
    refine wp_seq ?_
    refine wp_region_lit ?_
    refine s1 hK rfl rfl rfl rfl fun a hK => ?_
    refine wpList_nil (nm_then ?_)
    refine wp_block ?_
    refine c_loop (fun n a w => ∃ (n100 : Int) (i101 : Int), K 39 [(0, .string (sv1)), (3, .int .i64 (n100)), (4, .int .i64 (i101))] a ∧ St [] w0 w [] ∧ d_spec_LabelSum_L8 fu sv1 n n100 i101 = some r) ?_ ?_ fu _ _ ?_
    · rintro a w ⟨_, _, _, _, h⟩
      cases (show none = some _ from h)
    · rintro m102 a w99 ⟨n100, i101, hK, hM, h⟩
      rw [d_spec_LabelSum_L8_s] at h
      unfold d_spec_LabelSum_L8_B at h
      refine wp_seq ?_
      refine wp_seq ?_
      refine wp_region_lit ?_
      iterate 2 (refine s1 hK rfl rfl rfl rfl fun a hK => ?_)
      refine s_val hK rfl rfl rfl (r_lenS hK Try.underlying9 rfl rfl) fun a hK => ?_
      refine s1 hK rfl rfl rfl rfl fun a hK => ?_
      refine wpList_nil (nm_then ?_)
      refine c_cond (b := decide (i101 < ((sv1.size : Int)))) hK rfl (fun hb103 => ?_) (fun hb103 => ?_)
      · have h := bif_t hb103 h
        refine wp_skip (nm_then ?_)
        refine c_cut (fun a w => ∃ (n124 : Int) (x125 : ByteArray) (x126 : Int) (x127 : Int) (x128 : Bool), K 39 [(0, .string (sv1)), (3, .int .i64 (n124)), (4, .int .i64 (i101)), (24, .string (x125)), (25, .int .i64 (x126)), (26, .int .u8 (x127)), (27, .bool (x128))] a ∧ St [] w0 w [] ∧ d_spec_LabelSum_J10 fu (d_spec_LabelSum_L8 fu sv1 m102) i101 n124 = some r) ?_ ?_
        · rintro a w123 ⟨n124, x125, x126, x127, x128, hK, hM, h⟩
          unfold d_spec_LabelSum_J10 at h
          refine wp_region_lit ?_
          iterate 3 (refine s1 hK rfl rfl rfl rfl fun a hK => ?_)
          refine wpList_nil (nm_then ?_)
          exact ⟨n124, w64 (i101 + 1), hK.keep [0, 3, 4] rfl, hM.sel [] rfl (by decide), h⟩
        · refine wp_block ?_
          refine c_cut (fun a w => ∃ (x136 : ByteArray) (x137 : Int) (x138 : Int) (x139 : Bool), K 39 [(0, .string (sv1)), (3, .int .i64 (n100)), (4, .int .i64 (i101)), (24, .string (x136)), (25, .int .i64 (x137)), (26, .int .u8 (x138)), (27, .bool (x139))] a ∧ St [] w0 w [] ∧ d_spec_LabelSum_J11 fu (d_spec_LabelSum_L8 fu sv1 m102) sv1 n100 i101 = some r) ?_ ?_
          · rintro a w135 ⟨x136, x137, x138, x139, hK, hM, h⟩
            unfold d_spec_LabelSum_J11 at h
            refine wp_region_lit ?_
            iterate 4 (refine s1 hK rfl rfl rfl rfl fun a hK => ?_)
            obtain ⟨c140, hx141, h⟩ := obind_some h
            refine s_val hK rfl rfl rfl (r_ixs hx141 hK Try.underlying9 rfl rfl rfl) fun a hK => ?_
            refine s_val hK rfl rfl rfl (r_cv hK Try.underlying5 Try.underlying3 rfl rfl) fun a hK => ?_
            iterate 4 (refine s1 hK rfl rfl rfl rfl fun a hK => ?_)
            refine wpList_nil (nm_block (nm_then ?_))
            exact ⟨Int.tmod (w64 ((w64 ((w64 (10 * n100)) + (w64 c140))) - 48)) 97, x136, x137, x138, x139, hK.keep [0, 3, 4, 24, 25, 26, 27] rfl, hM.sel [] rfl (by decide), h⟩
          · refine wp_seq ?_
            refine wp_region_lit ?_
            iterate 2 (refine s1 hK rfl rfl rfl rfl fun a hK => ?_)
            obtain ⟨c142, hx143, h⟩ := obind_some h
            refine s_val hK rfl rfl rfl (r_ixs hx143 hK Try.underlying9 rfl rfl rfl) fun a hK => ?_
            iterate 2 (refine s1 hK rfl rfl rfl rfl fun a hK => ?_)
            refine bsplit (decide (c142 < 48)) (fun hb144 => ?_) (fun hb144 => ?_)
            · have h := bif_t hb144 h
              have hK := hK.re (d := 23) rfl (congrArg Value.bool hb144)
              refine sk hK rfl rfl rfl fun a hK => ?_
              refine sk hK rfl rfl rfl fun a hK => ?_
              refine sk hK rfl rfl rfl fun a hK => ?_
              refine sk hK rfl rfl rfl fun a hK => ?_
              refine s1 hK rfl rfl rfl rfl fun a hK => ?_
              refine wpList_nil (nm_then ?_)
              refine wp_cond_true (hK.ev rfl) ?_
              refine wp_seq ?_
              refine wp_region_lit ?_
              refine s1 hK rfl rfl rfl rfl fun a hK => ?_
              refine wpList_nil (nm_then ?_)
              refine wp_ret (rt_then (rt_block (rt_then (rt_then (rt_block (rt_then ?_))))))
              have h := Option.some.inj h
              subst h
              exact finR1 hK rfl (RV.tmp hK rfl) ⟨rfl, hM.ext⟩
            · have h := bif_f hb144 h
              have hK := hK.re (d := 23) rfl (congrArg Value.bool hb144)
              iterate 2 (refine s1 hK rfl rfl rfl rfl fun a hK => ?_)
              obtain ⟨c145, hx146, h⟩ := obind_some h
              refine s_val hK rfl rfl rfl (r_ixs hx146 hK Try.underlying9 rfl rfl rfl) fun a hK => ?_
              iterate 2 (refine s1 hK rfl rfl rfl rfl fun a hK => ?_)
              refine wpList_nil (nm_then ?_)
              refine c_cond (b := decide (c145 > 57)) hK rfl (fun hb147 => ?_) (fun hb147 => ?_)
              · have h := bif_t hb147 h
                refine wp_seq ?_
                refine wp_region_lit ?_
                refine s1 hK rfl rfl rfl rfl fun a hK => ?_
                refine wpList_nil (nm_then ?_)
                refine wp_ret (rt_then (rt_block (rt_then (rt_then (rt_block (rt_then ?_))))))
                have h := Option.some.inj h
                subst h
                exact finR1 hK rfl (RV.tmp hK rfl) ⟨rfl, hM.ext⟩
              · have h := bif_f hb147 h
                refine wp_skip (nm_then ?_)
                exact ⟨sv1, i101, c145, decide (c145 > 57), hK.keep [0, 3, 4, 24, 25, 26, 27] rfl, hM.sel [] rfl (by decide), h⟩
      · have h := bif_f hb103 h
        refine wp_exit (ex_then (ex_then (ex_same (nm_then ?_))))
        refine wp_seq ?_
        refine wp_region_lit ?_
        iterate 2 (refine s1 hK rfl rfl rfl rfl fun a hK => ?_)
        refine wpList_nil (nm_then ?_)
        refine wp_ret ?_
        have h := Option.some.inj h
        subst h
        exact finR1 hK rfl (RV.tmp hK rfl) ⟨rfl, hM.ext⟩
    · exact ⟨0, 0, hK.keep [0, 3, 4] rfl, hM.sel [] rfl (by decide), h⟩
  · refine wp_seq ?_
    refine wp_region_lit ?_
    refine s1 hK rfl rfl rfl rfl fun a hK => ?_
    refine s_val hK rfl rfl rfl (r_lenS hK Try.underlying9 rfl rfl) fun a hK => ?_
    iterate 2 (refine s1 hK rfl rfl rfl rfl fun a hK => ?_)
    refine bsplit (((sv1.size : Int)) == 0) (fun hb148 => ?_) (fun hb148 => ?_)
    · have h := bif_t hb148 h
      have hK := hK.re (d := 8) rfl (congrArg Value.bool hb148)
      refine sk hK rfl rfl rfl fun a hK => ?_
      refine sk hK rfl rfl rfl fun a hK => ?_
      refine sk hK rfl rfl rfl fun a hK => ?_
      refine s1 hK rfl rfl rfl rfl fun a hK => ?_
      refine wpList_nil (nm_then ?_)
      refine wp_cond_true (hK.ev rfl) ?_
      refine wp_seq ?_
      refine wp_region_lit ?_
      refine s1 hK rfl rfl rfl rfl fun a hK => ?_
      refine wpList_nil (nm_then ?_)
      refine wp_ret (rt_then ?_)
      have h := Option.some.inj h
      subst h
      exact finR1 hK rfl (RV.tmp hK rfl) ⟨rfl, hM.ext⟩
    · have h := bif_f hb148 h
      have hK := hK.re (d := 8) rfl (congrArg Value.bool hb148)
      refine s1 hK rfl rfl rfl rfl fun a hK => ?_
      refine s_val hK rfl rfl rfl (r_lenS hK Try.underlying9 rfl rfl) fun a hK => ?_
      iterate 2 (refine s1 hK rfl rfl rfl rfl fun a hK => ?_)
      refine wpList_nil (nm_then ?_)
      refine c_cond (b := decide (((sv1.size : Int)) > 40)) hK rfl (fun hb149 => ?_) (fun hb149 => ?_)
      · have h := bif_t hb149 h
        refine wp_seq ?_
        refine wp_region_lit ?_
        refine s1 hK rfl rfl rfl rfl fun a hK => ?_
        refine wpList_nil (nm_then ?_)
        refine wp_ret (rt_then ?_)
        have h := Option.some.inj h
        subst h
        exact finR1 hK rfl (RV.tmp hK rfl) ⟨rfl, hM.ext⟩
      · have h := bif_f hb149 h
        refine wp_skip (nm_then ?_)
        exact ⟨hK.keep [0] rfl, hM.sel [] rfl (by decide), h⟩

theorem c_impl_LabelSum (fu : Nat) {w0 : World} (sv1 : ByteArray)  {r : Int}
    (h : d_impl_LabelSum fu sv1 = some r) :
    Calls Try.prog 11 #[.string (sv1)] w0 fun e w => e = .returned (.int .i64 (r)) ∧ Ext [] w0 w := by
  refine enter (vs := [_]) Try.func11 rfl Try.ntmps11 rfl fun a hK => ?_
  have hM := St.start w0
  unfold d_impl_LabelSum at h
  refine wp_seq ?_
  refine wp_region_lit ?_
  refine s1 hK rfl rfl rfl rfl fun a hK => ?_
  refine wpList_nil (nm_then ?_)
  refine wp_seq ?_
  refine wp_seq ?_
  refine wp_region_lit ?_
  refine s1 hK rfl rfl rfl rfl fun a hK => ?_
  refine s_val hK rfl rfl rfl (r_lenS hK Try.underlying9 rfl rfl) fun a hK => ?_
  obtain ⟨x2, hx3, h⟩ := obind_some h
  refine s_call hK Try.call23 rfl rfl rfl rfl rfl (c_impl_in fu _ _ _  hx3) fun e4 w5 hR => ?_
  obtain ⟨rfl, hE⟩ := hR
  refine ⟨_, rfl, fun a hK => ?_⟩
  have hM := hM.step hE
  refine s1 hK rfl rfl rfl rfl fun a hK => ?_
  refine wpList_nil (nm_then ?_)
  refine c_cond (b := !x2) hK rfl (fun hb6 => ?_) (fun hb6 => ?_)
  · have h := bif_t hb6 h
    refine wp_seq ?_
    refine wp_region_lit ?_
    refine s1 hK rfl rfl rfl rfl fun a hK => ?_
    refine wpList_nil (nm_then ?_)
    refine wp_ret (rt_then ?_)
    have h := Option.some.inj h
    subst h
    exact finR1 hK rfl (RV.tmp hK rfl) ⟨rfl, hM.ext⟩
  · have h := bif_f hb6 h
    refine wp_skip (nm_then ?_)
    refine wp_seq ?_
    refine wp_region_lit ?_
    refine s1 hK rfl rfl rfl rfl fun a hK => ?_
    refine wpList_nil (nm_then ?_)
    refine wp_seq ?_
    refine wp_seq ?_
    refine wp_region_lit ?_
    refine s1 hK rfl rfl rfl rfl fun a hK => ?_
    refine s_val hK rfl rfl rfl (r_lenS hK Try.underlying9 rfl rfl) fun a hK => ?_
    refine s1 hK rfl rfl rfl rfl fun a hK => ?_
    refine wpList_nil (nm_then ?_)
    refine wp_block ?_
    refine c_loop (fun n a w => ∃ (n102 : Int) (x103 : Int), K 35 [(0, .string (sv1)), (3, .int .i64 (n102)), (10, .int .i64 ((sv1.size : Int))), (11, .int .i64 (x103))] a ∧ St [] w0 w [] ∧ d_impl_LabelSum_L7 fu sv1 n n102 x103 = some r) ?_ ?_ fu _ _ ?_
    · rintro a w ⟨_, _, _, _, h⟩
      cases (show none = some _ from h)
    · rintro m104 a w101 ⟨n102, x103, hK, hM, h⟩
      rw [d_impl_LabelSum_L7_s] at h
      unfold d_impl_LabelSum_L7_B at h
      refine wp_seq ?_
      refine wp_region_lit ?_
      refine s1 hK rfl rfl rfl rfl fun a hK => ?_
      refine wpList_nil (nm_then ?_)
      refine wp_seq ?_
      refine c_cond (b := decide (x103 < ((sv1.size : Int)))) hK rfl (fun hb105 => ?_) (fun hb105 => ?_)
      · have h := bif_t hb105 h
        refine wp_skip (nm_then ?_)
        refine c_cut (fun a w => ∃ (n126 : Int) (x127 : ByteArray) (x128 : Int) (x129 : Int) (x130 : Bool), K 35 [(0, .string (sv1)), (3, .int .i64 (n126)), (10, .int .i64 ((sv1.size : Int))), (11, .int .i64 (x103)), (19, .string (x127)), (20, .int .i64 (x128)), (21, .int .u8 (x129)), (22, .bool (x130))] a ∧ St [] w0 w [] ∧ d_impl_LabelSum_J9 fu (d_impl_LabelSum_L7 fu sv1 m104) x103 n126 = some r) ?_ ?_
        · rintro a w125 ⟨n126, x127, x128, x129, x130, hK, hM, h⟩
          unfold d_impl_LabelSum_J9 at h
          refine wp_region_lit ?_
          iterate 2 (refine s1 hK rfl rfl rfl rfl fun a hK => ?_)
          refine wpList_nil (nm_then ?_)
          exact ⟨n126, w64 (x103 + 1), hK.keep [0, 3, 10, 11] rfl, hM.sel [] rfl (by decide), h⟩
        · refine wp_block ?_
          refine wp_seq ?_
          refine wp_region_lit ?_
          iterate 2 (refine s1 hK rfl rfl rfl rfl fun a hK => ?_)
          refine wpList_nil (nm_then ?_)
          refine c_cut (fun a w => ∃ (x138 : ByteArray) (x139 : Int) (x140 : Int) (x141 : Bool), K 35 [(0, .string (sv1)), (3, .int .i64 (n102)), (4, .int .i64 (x103)), (10, .int .i64 ((sv1.size : Int))), (11, .int .i64 (x103)), (19, .string (x138)), (20, .int .i64 (x139)), (21, .int .u8 (x140)), (22, .bool (x141))] a ∧ St [] w0 w [] ∧ d_impl_LabelSum_J10 fu (d_impl_LabelSum_L7 fu sv1 m104) sv1 n102 x103 = some r) ?_ ?_
          · rintro a w137 ⟨x138, x139, x140, x141, hK, hM, h⟩
            unfold d_impl_LabelSum_J10 at h
            refine wp_region_lit ?_
            iterate 4 (refine s1 hK rfl rfl rfl rfl fun a hK => ?_)
            obtain ⟨c142, hx143, h⟩ := obind_some h
            refine s_val hK rfl rfl rfl (r_ixs hx143 hK Try.underlying9 rfl rfl rfl) fun a hK => ?_
            refine s1 hK rfl rfl rfl rfl fun a hK => ?_
            refine s_val hK rfl rfl rfl (r_cv hK Try.underlying5 Try.underlying3 rfl rfl) fun a hK => ?_
            iterate 3 (refine s1 hK rfl rfl rfl rfl fun a hK => ?_)
            refine wpList_nil (nm_block (nm_then ?_))
            exact ⟨Int.tmod (w64 ((w64 (10 * n102)) + (w64 (w8 (c142 - 48))))) 97, x138, x139, x140, x141, hK.keep [0, 3, 10, 11, 19, 20, 21, 22] rfl, hM.sel [] rfl (by decide), h⟩
          · refine wp_seq ?_
            refine wp_region_lit ?_
            iterate 2 (refine s1 hK rfl rfl rfl rfl fun a hK => ?_)
            obtain ⟨c144, hx145, h⟩ := obind_some h
            refine s_val hK rfl rfl rfl (r_ixs hx145 hK Try.underlying9 rfl rfl rfl) fun a hK => ?_
            iterate 2 (refine s1 hK rfl rfl rfl rfl fun a hK => ?_)
            refine bsplit (decide (c144 < 48)) (fun hb146 => ?_) (fun hb146 => ?_)
            · have h := bif_t hb146 h
              have hK := hK.re (d := 18) rfl (congrArg Value.bool hb146)
              refine sk hK rfl rfl rfl fun a hK => ?_
              refine sk hK rfl rfl rfl fun a hK => ?_
              refine sk hK rfl rfl rfl fun a hK => ?_
              refine sk hK rfl rfl rfl fun a hK => ?_
              refine s1 hK rfl rfl rfl rfl fun a hK => ?_
              refine wpList_nil (nm_then ?_)
              refine wp_cond_true (hK.ev rfl) ?_
              refine wp_seq ?_
              refine wp_region_lit ?_
              refine s1 hK rfl rfl rfl rfl fun a hK => ?_
              refine wpList_nil (nm_then ?_)
              refine wp_ret (rt_then (rt_block (rt_then (rt_then (rt_block (rt_then ?_))))))
              have h := Option.some.inj h
              subst h
              exact finR1 hK rfl (RV.tmp hK rfl) ⟨rfl, hM.ext⟩
            · have h := bif_f hb146 h
              have hK := hK.re (d := 18) rfl (congrArg Value.bool hb146)
              iterate 2 (refine s1 hK rfl rfl rfl rfl fun a hK => ?_)
              obtain ⟨c147, hx148, h⟩ := obind_some h
              refine s_val hK rfl rfl rfl (r_ixs hx148 hK Try.underlying9 rfl rfl rfl) fun a hK => ?_
              iterate 2 (refine s1 hK rfl rfl rfl rfl fun a hK => ?_)
              refine wpList_nil (nm_then ?_)
              refine c_cond (b := decide (c147 > 57)) hK rfl (fun hb149 => ?_) (fun hb149 => ?_)
              · have h := bif_t hb149 h
                refine wp_seq ?_
                refine wp_region_lit ?_
                refine s1 hK rfl rfl rfl rfl fun a hK => ?_
                refine wpList_nil (nm_then ?_)
                refine wp_ret (rt_then (rt_block (rt_then (rt_then (rt_block (rt_then ?_))))))
                have h := Option.some.inj h
                subst h
                exact finR1 hK rfl (RV.tmp hK rfl) ⟨rfl, hM.ext⟩
              · have h := bif_f hb149 h
                refine wp_skip (nm_then ?_)
                exact ⟨sv1, x103, c147, decide (c147 > 57), hK.keep [0, 3, 4, 10, 11, 19, 20, 21, 22] rfl, hM.sel [] rfl (by decide), h⟩
      · have h := bif_f hb105 h
        refine wp_exit (ex_then (ex_then (ex_same (nm_then ?_))))
        refine wp_seq ?_
        refine wp_region_lit ?_
        iterate 2 (refine s1 hK rfl rfl rfl rfl fun a hK => ?_)
        refine wpList_nil (nm_then ?_)
        refine wp_ret ?_
        have h := Option.some.inj h
        subst h
        exact finR1 hK rfl (RV.tmp hK rfl) ⟨rfl, hM.ext⟩
    · exact ⟨0, 0, hK.keep [0, 3, 10, 11] rfl, hM.sel [] rfl (by decide), h⟩

theorem c_laws_FnExactLabelSum (fu : Nat) {w0 : World} (aS1 : ByteArray)  {r : Bool}
    (h : d_laws_FnExactLabelSum fu aS1 = some r) :
    Calls Try.prog 4 #[.string (aS1)] w0 fun e w => e = .returned (.bool (r)) ∧ Ext [] w0 w := by
  refine enter (vs := [_]) Try.func4 rfl Try.ntmps4 rfl fun a hK => ?_
  have hM := St.start w0
  unfold d_laws_FnExactLabelSum at h
  refine wp_seq ?_
  refine wp_region_lit ?_
  refine s1 hK rfl rfl rfl rfl fun a hK => ?_
  refine wpList_nil (nm_then ?_)
  refine wp_seq ?_
  refine wp_seq ?_
  refine wp_region_lit ?_
  refine s1 hK rfl rfl rfl rfl fun a hK => ?_
  refine s_val hK rfl rfl rfl (r_lenS hK Try.underlying9 rfl rfl) fun a hK => ?_
  refine s1 hK rfl rfl rfl rfl fun a hK => ?_
  refine wpList_nil (nm_then ?_)
  refine c_cond (b := decide (((aS1.size : Int)) > 1048576)) hK rfl (fun hb2 => ?_) (fun hb2 => ?_)
  · have h := bif_t hb2 h
    refine wp_seq ?_
    refine wp_region_lit ?_
    refine s1 hK rfl rfl rfl rfl fun a hK => ?_
    refine wpList_nil (nm_then ?_)
    refine wp_ret (rt_then ?_)
    have h := Option.some.inj h
    subst h
    exact finR1 hK rfl (RV.tmp hK rfl) ⟨rfl, hM.ext⟩
  · have h := bif_f hb2 h
    refine wp_skip (nm_then ?_)
    refine wp_seq ?_
    refine wp_region_lit ?_
    refine s1 hK rfl rfl rfl rfl fun a hK => ?_
    obtain ⟨x3, hx4, h⟩ := obind_some h
    refine s_call hK Try.call10 rfl rfl rfl rfl rfl (c_spec_LabelSum fu _  hx4) fun e5 w6 hR => ?_
    obtain ⟨rfl, hE⟩ := hR
    refine ⟨_, rfl, fun a hK => ?_⟩
    have hM := hM.step hE
    refine s1 hK rfl rfl rfl rfl fun a hK => ?_
    refine wpList_nil (nm_then ?_)
    refine wp_seq ?_
    refine wp_region_lit ?_
    refine s1 hK rfl rfl rfl rfl fun a hK => ?_
    obtain ⟨x7, hx8, h⟩ := obind_some h
    refine s_call hK Try.call11 rfl rfl rfl rfl rfl (c_impl_LabelSum fu _  hx8) fun e9 w10 hR => ?_
    obtain ⟨rfl, hE⟩ := hR
    refine ⟨_, rfl, fun a hK => ?_⟩
    have hM := hM.step hE
    refine s1 hK rfl rfl rfl rfl fun a hK => ?_
    refine wpList_nil (nm_then ?_)
    refine wp_seq ?_
    refine wp_seq ?_
    refine wp_region_lit ?_
    iterate 3 (refine s1 hK rfl rfl rfl rfl fun a hK => ?_)
    refine wpList_nil (nm_then ?_)
    refine c_cond (b := x7 != x3) hK rfl (fun hb11 => ?_) (fun hb11 => ?_)
    · have h := bif_t hb11 h
      refine wp_seq ?_
      refine wp_region_lit ?_
      refine s1 hK rfl rfl rfl rfl fun a hK => ?_
      refine wpList_nil (nm_then ?_)
      refine wp_ret (rt_then ?_)
      have h := Option.some.inj h
      subst h
      exact finR1 hK rfl (RV.tmp hK rfl) ⟨rfl, hM.ext⟩
    · have h := bif_f hb11 h
      refine wp_skip (nm_then ?_)
      refine wp_seq ?_
      refine wp_region_lit ?_
      refine s1 hK rfl rfl rfl rfl fun a hK => ?_
      refine wpList_nil (nm_then ?_)
      refine wp_ret ?_
      have h := Option.some.inj h
      subst h
      exact finR1 hK rfl (RV.tmp hK rfl) ⟨rfl, hM.ext⟩

end Go.Proofs.Ytfhmhbcnijlfaaa
