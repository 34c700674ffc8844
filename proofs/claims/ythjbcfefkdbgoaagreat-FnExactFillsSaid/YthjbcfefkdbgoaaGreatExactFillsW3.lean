/- FnExactFills: the walks of functions that the law reaches, part 3. Printed by gen.py. -/
import Derived.Test.YthjbcfefkdbgoaaGreatExactFillsW2
set_option maxRecDepth 20000
set_option linter.unusedSimpArgs false
set_option linter.unusedVariables false
namespace Go.Proofs.YthjbcfefkdbgoaaGreat
open Go Go.RowKit
open Enc (rd ow)
open Arg (argv)
open Ret (retv)

theorem bt120 : BT Tryz.prog 120 [.int .i64 0, .int .i64 0, .int .i64 0, .int .i64 0, .int .i64 0, .int .i64 0, .int .i64 0] #[(0, 1), (1, 1), (2, 1), (3, 1), (4, 1), (5, 1), (6, 1)] := ⟨Tryz.zeroValue120, _, Tryz.underlying120, fun w => by simp [Tryz.sizeOf3]⟩

def d_spec_Class_J1 (fu : Nat) (k4 : Int → Option (Int)) (i126 : Int)  : Option (Int) :=
  k4 (w64 (i126 + 1))

def d_spec_Class_L1_B (fu : Nat)  (r1 : Request) (k4 : Int → Option (Int)) (i126 : Int) : Option (Int) :=
  bif (decide (i126 < ((r1.fTypes.length : Int)))) then obind (ix r1.fTypes i126) fun x141 => bif (decide (x141.fW > r1.fPallet.fW)) then some (6) else bif (decide (x141.fD > r1.fPallet.fD)) then some (6) else bif (decide (x141.fH > r1.fPallet.fH)) then some (6) else bif (decide ((w64 (x141.fTare + x141.fGram)) > r1.fPallet.fGram)) then some (6) else d_spec_Class_J1 fu k4 i126 else some (0)
def d_spec_Class_L1 (fu : Nat)  (r1 : Request) : Nat → Int → Option (Int)
  | 0 => fun _ => none
  | n + 1 => d_spec_Class_L1_B fu r1 (d_spec_Class_L1 fu r1 n)
theorem d_spec_Class_L1_s (fu : Nat)  (r1 : Request) (n : Nat) : d_spec_Class_L1 fu r1 (n + 1) = d_spec_Class_L1_B fu r1 (d_spec_Class_L1 fu r1 n) := rfl

def d_spec_Class_L2_B (fu : Nat)  (r1 : Request) (x32 : Typ × Bool) (k1 : Int → Option (Int)) (i63 : Int) : Option (Int) :=
  bif (decide (i63 < ((r1.fItems.length : Int)))) then obind (ix r1.fItems i63) fun x67 => obind (d_spec_Fits fu x67 x32.1) fun x69 => bif (!x69) then some (5) else k1 (w64 (i63 + 1)) else d_spec_Class_L1 fu r1 fu 0
def d_spec_Class_L2 (fu : Nat)  (r1 : Request) (x32 : Typ × Bool) : Nat → Int → Option (Int)
  | 0 => fun _ => none
  | n + 1 => d_spec_Class_L2_B fu r1 x32 (d_spec_Class_L2 fu r1 x32 n)
theorem d_spec_Class_L2_s (fu : Nat)  (r1 : Request) (x32 : Typ × Bool) (n : Nat) : d_spec_Class_L2 fu r1 x32 (n + 1) = d_spec_Class_L2_B fu r1 x32 (d_spec_Class_L2 fu r1 x32 n) := rfl

def d_spec_Class (fu : Nat) (r1 : Request) : Option (Int) :=
  obind (d_spec_BoundsOk fu r1) fun x17 => bif (!x17) then some (2) else obind (d_spec_l5Names fu r1) fun x22 => bif (!x22) then some (3) else obind (d_spec_TableOk fu r1.fPairs r1.fClasses) fun x27 => bif (!x27) then some (4) else obind (d_spec_MasterOf fu r1) fun x32 => d_spec_Class_L2 fu r1 x32 fu 0

def d_spec_l6Units_L1_B (fu : Nat) (k3 : List Int → Int → Option ((List Int))) (r1 : Request) (i154 : Int) (k4 : List Int → Int → Option ((List Int))) (out194 : List Int) (kv199 : Int) : Option ((List Int)) :=
  obind (ix r1.fItems i154) fun x201 => bif (decide (kv199 < x201.fCount)) then obind (apnd 8 out194 (([i154] : List Int))) fun x209 => k4 x209 (w64 (kv199 + 1)) else k3 out194 (w64 (i154 + 1))
def d_spec_l6Units_L1 (fu : Nat) (k3 : List Int → Int → Option ((List Int))) (r1 : Request) (i154 : Int) : Nat → List Int → Int → Option ((List Int))
  | 0 => fun _ _ => none
  | n + 1 => d_spec_l6Units_L1_B fu k3 r1 i154 (d_spec_l6Units_L1 fu k3 r1 i154 n)
theorem d_spec_l6Units_L1_s (fu : Nat) (k3 : List Int → Int → Option ((List Int))) (r1 : Request) (i154 : Int) (n : Nat) : d_spec_l6Units_L1 fu k3 r1 i154 (n + 1) = d_spec_l6Units_L1_B fu k3 r1 i154 (d_spec_l6Units_L1 fu k3 r1 i154 n) := rfl

def d_spec_l6Units_L2_B (fu : Nat)  (r1 : Request) (k3 : List Int → Int → Option ((List Int))) (out149 : List Int) (i154 : Int) : Option ((List Int)) :=
  bif (decide (i154 < ((r1.fItems.length : Int)))) then d_spec_l6Units_L1 fu k3 r1 i154 fu out149 0 else some (out149)
def d_spec_l6Units_L2 (fu : Nat)  (r1 : Request) : Nat → List Int → Int → Option ((List Int))
  | 0 => fun _ _ => none
  | n + 1 => d_spec_l6Units_L2_B fu r1 (d_spec_l6Units_L2 fu r1 n)
theorem d_spec_l6Units_L2_s (fu : Nat)  (r1 : Request) (n : Nat) : d_spec_l6Units_L2 fu r1 (n + 1) = d_spec_l6Units_L2_B fu r1 (d_spec_l6Units_L2 fu r1 n) := rfl

def d_spec_l6Units (fu : Nat) (r1 : Request) : Option ((List Int)) :=
  d_spec_l6Units_L2 fu r1 fu (([] : List Int)) 0

def d_spec_Units (fu : Nat) (r1 : Request) : Option ((List Int)) :=
  obind (d_spec_Class fu r1) fun x17 => bif (x17 != 0) then some (([] : List Int)) else obind (d_spec_l6Units fu r1) fun x27 => some (x27)

def d_spec_l6Item (fu : Nat) (r1 : Request) (units5 : List Int) (u9 : Int) : Option (Item × Bool) :=
  obind (d_spec_l1In fu u9 0 (w64 (((units5.length : Int)) - 1))) fun x25 => bif (!x25) then some ((⟨0, 0, 0, 0, 0, 0, 0⟩ : Item), false) else obind (ix units5 u9) fun x33 => obind (ix r1.fItems x33) fun x35 => some (x35, true)

def d_spec_Volume_J1 (fu : Nat) (wv1 : Int) (h2 : Int) (d3 : Int)  : Option (Int) :=
  some (w64 ((w64 (wv1 * h2)) * d3))

def d_spec_Volume (fu : Nat) (wv1 : Int) (h2 : Int) (d3 : Int) : Option (Int) :=
  obind (d_spec_l1In fu wv1 0 2000) fun x20 => bif (!x20) then some (0) else obind (d_spec_l1In fu h2 0 2000) fun x25 => bif (!x25) then some (0) else obind (d_spec_l1In fu d3 0 2000) fun x30 => bif (!x30) then some (0) else d_spec_Volume_J1 fu wv1 h2 d3

def d_spec_VolumeOf_J1 (fu : Nat) (k7 : Int → Int → Option (Int)) (i278 : Int) (n341 : Int) : Option (Int) :=
  k7 n341 (w64 (i278 + 1))

def d_spec_VolumeOf_J2 (fu : Nat) (k7 : Int → Int → Option (Int)) (n277 : Int) (i278 : Int) (i371 : Item) : Option (Int) :=
  obind (d_spec_Volume fu i371.fW i371.fH i371.fD) fun x372 => d_spec_VolumeOf_J1 fu k7 i278 (w64 (n277 + x372))

def d_spec_VolumeOf_L1_B (fu : Nat)  (r1 : Request) (units5 : List Int) (x21 : (List Int)) (k7 : Int → Int → Option (Int)) (n277 : Int) (i278 : Int) : Option (Int) :=
  bif (decide (i278 < ((units5.length : Int)))) then obind (ix units5 i278) fun x377 => obind (d_spec_l6Item fu r1 x21 x377) fun x379 => d_spec_VolumeOf_J2 fu k7 n277 i278 x379.1 else some (n277)
def d_spec_VolumeOf_L1 (fu : Nat)  (r1 : Request) (units5 : List Int) (x21 : (List Int)) : Nat → Int → Int → Option (Int)
  | 0 => fun _ _ => none
  | n + 1 => d_spec_VolumeOf_L1_B fu r1 units5 x21 (d_spec_VolumeOf_L1 fu r1 units5 x21 n)
theorem d_spec_VolumeOf_L1_s (fu : Nat)  (r1 : Request) (units5 : List Int) (x21 : (List Int)) (n : Nat) : d_spec_VolumeOf_L1 fu r1 units5 x21 (n + 1) = d_spec_VolumeOf_L1_B fu r1 units5 x21 (d_spec_VolumeOf_L1 fu r1 units5 x21 n) := rfl

def d_spec_VolumeOf (fu : Nat) (r1 : Request) (units5 : List Int) : Option (Int) :=
  obind (d_spec_Units fu r1) fun x21 => d_spec_VolumeOf_L1 fu r1 units5 x21 fu 0 0

def d_spec_Fill_J1 (fu : Nat) (r1 : Request) (x5 : Carton) (x26 : Typ × Bool)  : Option (Int) :=
  obind (d_spec_VolumeOf fu r1 x5.fUnits) fun x43 => obind (d_spec_Volume fu x26.1.fW x26.1.fH x26.1.fD) fun x47 => obind (odiv x47) fun u51 => some (w64 (Int.tdiv (w64 (1000 * x43)) x47))

def d_spec_Fill (fu : Nat) (r1 : Request) (x5 : Carton) : Option (Int) :=
  obind (d_spec_TypeById fu r1 x5.fType) fun x26 => obind (d_spec_Class fu r1) fun x53 => bif (x53 != 0) then some (0) else bif (!x26.2) then some (0) else d_spec_Fill_J1 fu r1 x5 x26

def d_spec_Fills_L1_B (fu : Nat)  (r1 : Request) (list5 : List Carton) (k1 : List Int → Int → Option ((List Int))) (out97 : List Int) (i102 : Int) : Option ((List Int)) :=
  bif (decide (i102 < ((list5.length : Int)))) then obind (ix list5 i102) fun x106 => obind (d_spec_Fill fu r1 x106) fun x116 => obind (apnd 8 out97 (([x116] : List Int))) fun x127 => k1 x127 (w64 (i102 + 1)) else some (out97)
def d_spec_Fills_L1 (fu : Nat)  (r1 : Request) (list5 : List Carton) : Nat → List Int → Int → Option ((List Int))
  | 0 => fun _ _ => none
  | n + 1 => d_spec_Fills_L1_B fu r1 list5 (d_spec_Fills_L1 fu r1 list5 n)
theorem d_spec_Fills_L1_s (fu : Nat)  (r1 : Request) (list5 : List Carton) (n : Nat) : d_spec_Fills_L1 fu r1 list5 (n + 1) = d_spec_Fills_L1_B fu r1 list5 (d_spec_Fills_L1 fu r1 list5 n) := rfl

def d_spec_Fills (fu : Nat) (r1 : Request) (list5 : List Carton) : Option ((List Int)) :=
  d_spec_Fills_L1 fu r1 list5 fu (([] : List Int)) 0

def d_impl_TypeById_1 (fu : Nat) (t1 : Typ) (x2 : Int) : Option (Bool) :=
  some (t1.fId == x2)

def d_slices_IndexFunc_impl_Type_impl_Type_L1_B (fu : Nat)  (sv1 : List Typ) (f5 : Typ → Option Bool) (k1 : Int → Option (Int)) (x32 : Int) : Option (Int) :=
  bif (decide (x32 < ((sv1.length : Int)))) then obind (ix sv1 x32) fun x35 => obind (f5 x35) fun x37 => bif x37 then some (x32) else k1 (w64 (x32 + 1)) else some ((-1))
def d_slices_IndexFunc_impl_Type_impl_Type_L1 (fu : Nat)  (sv1 : List Typ) (f5 : Typ → Option Bool) : Nat → Int → Option (Int)
  | 0 => fun _ => none
  | n + 1 => d_slices_IndexFunc_impl_Type_impl_Type_L1_B fu sv1 f5 (d_slices_IndexFunc_impl_Type_impl_Type_L1 fu sv1 f5 n)
theorem d_slices_IndexFunc_impl_Type_impl_Type_L1_s (fu : Nat)  (sv1 : List Typ) (f5 : Typ → Option Bool) (n : Nat) : d_slices_IndexFunc_impl_Type_impl_Type_L1 fu sv1 f5 (n + 1) = d_slices_IndexFunc_impl_Type_impl_Type_L1_B fu sv1 f5 (d_slices_IndexFunc_impl_Type_impl_Type_L1 fu sv1 f5 n) := rfl

def d_slices_IndexFunc_impl_Type_impl_Type (fu : Nat) (sv1 : List Typ) (f5 : Typ → Option Bool) : Option (Int) :=
  d_slices_IndexFunc_impl_Type_impl_Type_L1 fu sv1 f5 fu 0

def d_impl_TypeById (fu : Nat) (r1 : Request) (id5 : Int) : Option (Typ × Bool) :=
  obind (d_slices_IndexFunc_impl_Type_impl_Type fu r1.fTypes (fun y24 => d_impl_TypeById_1 fu y24 id5)) fun x27 => bif (decide (x27 < 0)) then some ((⟨0, 0, 0, 0, 0, 0, 0⟩ : Typ), false) else obind (ix r1.fTypes x27) fun x34 => some (x34, true)

def d_impl_MasterOf (fu : Nat) (r1 : Request) : Option (Typ × Bool) :=
  obind (d_impl_TypeById fu r1 r1.fMaster) fun x20 => some (x20.1, x20.2)

def d_impl_in (fu : Nat) (n1 : Int) (lo2 : Int) (hi3 : Int) : Option (Bool) :=
  bif (decide (n1 ≥ lo2)) then some (decide (n1 ≤ hi3)) else some (false)

def d_impl_isSide (fu : Nat) (n1 : Int) : Option (Bool) :=
  obind (d_impl_in fu n1 1 2000) fun x2 => some (x2)

def d_impl_PalletOk (fu : Nat) (x1 : Pallet) : Option (Bool) :=
  obind (d_impl_isSide fu x1.fW) fun x5 => bif x5 then obind (d_impl_isSide fu x1.fD) fun x10 => bif x10 then obind (d_impl_isSide fu x1.fH) fun x15 => bif x15 then obind (d_impl_in fu x1.fGram 1 100000) fun x20 => some (x20) else some (false) else some (false) else some (false)

def d_slices_IndexFunc_impl_Pair_impl_Pair_L1_B (fu : Nat)  (sv1 : List Pair) (f5 : Pair → Option Bool) (k1 : Int → Option (Int)) (x32 : Int) : Option (Int) :=
  bif (decide (x32 < ((sv1.length : Int)))) then obind (ix sv1 x32) fun x35 => obind (f5 x35) fun x37 => bif x37 then some (x32) else k1 (w64 (x32 + 1)) else some ((-1))
def d_slices_IndexFunc_impl_Pair_impl_Pair_L1 (fu : Nat)  (sv1 : List Pair) (f5 : Pair → Option Bool) : Nat → Int → Option (Int)
  | 0 => fun _ => none
  | n + 1 => d_slices_IndexFunc_impl_Pair_impl_Pair_L1_B fu sv1 f5 (d_slices_IndexFunc_impl_Pair_impl_Pair_L1 fu sv1 f5 n)
theorem d_slices_IndexFunc_impl_Pair_impl_Pair_L1_s (fu : Nat)  (sv1 : List Pair) (f5 : Pair → Option Bool) (n : Nat) : d_slices_IndexFunc_impl_Pair_impl_Pair_L1 fu sv1 f5 (n + 1) = d_slices_IndexFunc_impl_Pair_impl_Pair_L1_B fu sv1 f5 (d_slices_IndexFunc_impl_Pair_impl_Pair_L1 fu sv1 f5 n) := rfl

def d_slices_IndexFunc_impl_Pair_impl_Pair (fu : Nat) (sv1 : List Pair) (f5 : Pair → Option Bool) : Option (Int) :=
  d_slices_IndexFunc_impl_Pair_impl_Pair_L1 fu sv1 f5 fu 0

def d_slices_ContainsFunc_impl_Pair_impl_Pair (fu : Nat) (sv1 : List Pair) (f5 : Pair → Option Bool) : Option (Bool) :=
  obind (d_slices_IndexFunc_impl_Pair_impl_Pair fu sv1 f5) fun x14 => some (decide (x14 ≥ 0))

def d_impl_BoundsOk_1 (fu : Nat) (p1 : Pair) : Option (Bool) :=
  obind (d_impl_in fu p1.fA 0 3) fun x5 => bif (!x5) then some (true) else obind (d_impl_in fu p1.fB 0 3) fun x10 => some (!x10)

def d_slices_ContainsFunc_impl_Type_impl_Type (fu : Nat) (sv1 : List Typ) (f5 : Typ → Option Bool) : Option (Bool) :=
  obind (d_slices_IndexFunc_impl_Type_impl_Type fu sv1 f5) fun x14 => some (decide (x14 ≥ 0))

def d_impl_TypeOk (fu : Nat) (x1 : Typ) : Option (Bool) :=
  obind (d_impl_in fu x1.fId 0 999) fun x5 => bif x5 then obind (d_impl_isSide fu x1.fW) fun x10 => bif x10 then obind (d_impl_isSide fu x1.fH) fun x15 => bif x15 then obind (d_impl_isSide fu x1.fD) fun x20 => bif x20 then obind (d_impl_in fu x1.fTare 0 100000) fun x25 => bif x25 then obind (d_impl_in fu x1.fGram 1 100000) fun x30 => bif x30 then obind (d_impl_in fu x1.fCost 0 100000) fun x35 => some (x35) else some (false) else some (false) else some (false) else some (false) else some (false) else some (false)

theorem c_spec_Class (fu : Nat) {w0 : World} (r1 : Request) {cs2 : List Value} {F3 : List Nat} (hp4 : rd w0 F3 cs2 r1) {r : Int}
    (h : d_spec_Class fu r1 = some r) :
    Calls Tryz.prog 68 #[.agg cs2.toArray] w0 fun e w => e = .returned (.int .i64 (r)) ∧ Ext [] w0 w := by
  refine enter (vs := [_]) Tryz.func68 rfl Tryz.ntmps68 rfl fun a hK => ?_
  have hM := St.start w0
  obtain ⟨v5, F6, v7, F8, v9, F10, rfl, rfl, hf11, hf12, hf13⟩ := hp4
  unfold d_spec_Class at h
  refine wp_seq ?_
  refine wp_region_lit ?_
  refine s_box (cs := [.int .i64 (r1.fWay), .int .i64 (r1.fPallet.fW), .int .i64 (r1.fPallet.fD), .int .i64 (r1.fPallet.fH), .int .i64 (r1.fPallet.fGram), .int .i64 (r1.fClasses), v5, v7, .int .i64 (r1.fMaster), v9]) hM hK rfl rfl rfl rfl rfl rfl fun b14 w16 a hK hM hE hb15 => ?_
  refine s1 hK rfl rfl rfl rfl fun a hK => ?_
  refine wpList_nil (nm_then ?_)
  refine wp_seq ?_
  refine wp_seq ?_
  refine wp_region_lit ?_
  refine s_val hK rfl rfl rfl (r_ldB ta40 hM 0 hb15 0 hK rfl rfl rfl rfl rfl rfl) fun a hK => ?_
  obtain ⟨x17, hx18, h⟩ := obind_some h
  refine s_call hK Tryz.call132 rfl rfl rfl rfl rfl (c_spec_BoundsOk fu _ (show rd _ _ [.int .i64 (r1.fWay), .int .i64 (r1.fPallet.fW), .int .i64 (r1.fPallet.fD), .int .i64 (r1.fPallet.fH), .int .i64 (r1.fPallet.fGram), .int .i64 (r1.fClasses), v5, v7, .int .i64 (r1.fMaster), v9] (r1 : Request) from ⟨_, _, _, _, _, _, rfl, rfl, (Enc.rd_agr hf11 (hM.a00 (Enc.rd_lt hf11))), (Enc.rd_agr hf12 (hM.a00 (Enc.rd_lt hf12))), (Enc.rd_agr hf13 (hM.a00 (Enc.rd_lt hf13)))⟩) hx18) fun e19 w20 hR => ?_
  obtain ⟨rfl, hE⟩ := hR
  refine ⟨_, rfl, fun a hK => ?_⟩
  have hM := hM.step hE
  refine s1 hK rfl rfl rfl rfl fun a hK => ?_
  refine wpList_nil (nm_then ?_)
  refine c_cond (b := !x17) hK rfl (fun hb21 => ?_) (fun hb21 => ?_)
  · have h := bif_t hb21 h
    refine wp_seq ?_
    refine wp_region_lit ?_
    refine s1 hK rfl rfl rfl rfl fun a hK => ?_
    refine wpList_nil (nm_then ?_)
    refine wp_ret (rt_then ?_)
    have h := Option.some.inj h
    subst h
    exact finR1 hK rfl (RV.tmp hK rfl) ⟨rfl, hM.ext⟩
  · have h := bif_f hb21 h
    refine wp_skip (nm_then ?_)
    refine wp_seq ?_
    refine wp_seq ?_
    refine wp_region_lit ?_
    refine s_val hK rfl rfl rfl (r_ldB ta40 hM 0 hb15 0 hK rfl rfl rfl rfl rfl rfl) fun a hK => ?_
    obtain ⟨x22, hx23, h⟩ := obind_some h
    refine s_call hK Tryz.call133 rfl rfl rfl rfl rfl (c_spec_l5Names fu _ (show rd _ _ [.int .i64 (r1.fWay), .int .i64 (r1.fPallet.fW), .int .i64 (r1.fPallet.fD), .int .i64 (r1.fPallet.fH), .int .i64 (r1.fPallet.fGram), .int .i64 (r1.fClasses), v5, v7, .int .i64 (r1.fMaster), v9] (r1 : Request) from ⟨_, _, _, _, _, _, rfl, rfl, (Enc.rd_agr hf11 (hM.a00 (Enc.rd_lt hf11))), (Enc.rd_agr hf12 (hM.a00 (Enc.rd_lt hf12))), (Enc.rd_agr hf13 (hM.a00 (Enc.rd_lt hf13)))⟩) hx23) fun e24 w25 hR => ?_
    obtain ⟨rfl, hE⟩ := hR
    refine ⟨_, rfl, fun a hK => ?_⟩
    have hM := hM.step hE
    refine s1 hK rfl rfl rfl rfl fun a hK => ?_
    refine wpList_nil (nm_then ?_)
    refine c_cond (b := !x22) hK rfl (fun hb26 => ?_) (fun hb26 => ?_)
    · have h := bif_t hb26 h
      refine wp_seq ?_
      refine wp_region_lit ?_
      refine s1 hK rfl rfl rfl rfl fun a hK => ?_
      refine wpList_nil (nm_then ?_)
      refine wp_ret (rt_then ?_)
      have h := Option.some.inj h
      subst h
      exact finR1 hK rfl (RV.tmp hK rfl) ⟨rfl, hM.ext⟩
    · have h := bif_f hb26 h
      refine wp_skip (nm_then ?_)
      refine wp_seq ?_
      refine wp_seq ?_
      refine wp_region_lit ?_
      refine s_val hK rfl rfl rfl (r_fa fa40_3 hK rfl rfl) fun a hK => ?_
      refine s_val hK rfl rfl rfl (r_ldb t136 hM 0 hb15 6 hK rfl rfl rfl rfl rfl) fun a hK => ?_
      refine s_val hK rfl rfl rfl (r_fa fa40_2 hK rfl rfl) fun a hK => ?_
      refine s_val hK rfl rfl rfl (r_ldb t13 hM 0 hb15 5 hK rfl rfl rfl rfl rfl) fun a hK => ?_
      obtain ⟨x27, hx28, h⟩ := obind_some h
      refine s_call hK Tryz.call134 rfl rfl rfl rfl rfl (c_spec_TableOk fu _ _ (Enc.rd_agr hf11 (hM.a00 (Enc.rd_lt hf11))) hx28) fun e29 w30 hR => ?_
      obtain ⟨rfl, hE⟩ := hR
      refine ⟨_, rfl, fun a hK => ?_⟩
      have hM := hM.step hE
      refine s1 hK rfl rfl rfl rfl fun a hK => ?_
      refine wpList_nil (nm_then ?_)
      refine c_cond (b := !x27) hK rfl (fun hb31 => ?_) (fun hb31 => ?_)
      · have h := bif_t hb31 h
        refine wp_seq ?_
        refine wp_region_lit ?_
        refine s1 hK rfl rfl rfl rfl fun a hK => ?_
        refine wpList_nil (nm_then ?_)
        refine wp_ret (rt_then ?_)
        have h := Option.some.inj h
        subst h
        exact finR1 hK rfl (RV.tmp hK rfl) ⟨rfl, hM.ext⟩
      · have h := bif_f hb31 h
        refine wp_skip (nm_then ?_)
        refine wp_seq ?_
        refine wp_region_lit ?_
        refine s_val hK rfl rfl rfl (r_ldB ta40 hM 0 hb15 0 hK rfl rfl rfl rfl rfl rfl) fun a hK => ?_
        obtain ⟨x32, hx33, h⟩ := obind_some h
        refine s_call hK Tryz.call88 rfl rfl rfl rfl rfl (c_spec_MasterOf fu _ (show rd _ _ [.int .i64 (r1.fWay), .int .i64 (r1.fPallet.fW), .int .i64 (r1.fPallet.fD), .int .i64 (r1.fPallet.fH), .int .i64 (r1.fPallet.fGram), .int .i64 (r1.fClasses), v5, v7, .int .i64 (r1.fMaster), v9] (r1 : Request) from ⟨_, _, _, _, _, _, rfl, rfl, (Enc.rd_agr hf11 (hM.a00 (Enc.rd_lt hf11))), (Enc.rd_agr hf12 (hM.a00 (Enc.rd_lt hf12))), (Enc.rd_agr hf13 (hM.a00 (Enc.rd_lt hf13)))⟩) hx33) fun e34 w35 hR => ?_
        obtain ⟨rfl, hE⟩ := hR
        refine ⟨_, rfl, fun a hK => ?_⟩
        have hM := hM.step hE
        iterate 3 (refine s1 hK rfl rfl rfl rfl fun a hK => ?_)
        refine s_alloc (cs := [.int .i64 (0), .int .i64 (0), .int .i64 (0), .int .i64 (0), .int .i64 (0), .int .i64 (0), .int .i64 (0)]) hM hK Tryz.zeroValue92 rfl rfl rfl rfl rfl fun b36 w38 a hK hM hE hb37 => ?_
        refine s_stb (cs' := [.int .i64 (x32.1.fId), .int .i64 (x32.1.fW), .int .i64 (x32.1.fH), .int .i64 (x32.1.fD), .int .i64 (x32.1.fTare), .int .i64 (x32.1.fGram), .int .i64 (x32.1.fCost)]) Tryz.sizeOf92 hM 0 hb37 0 hK rfl rfl rfl rfl rfl rfl rfl rfl rfl rfl rfl fun w39 a hK hE hM hb40 => ?_
        refine s1 hK rfl rfl rfl rfl fun a hK => ?_
        refine wpList_nil (nm_then ?_)
        refine wp_seq ?_
        refine wp_seq ?_
        refine wp_region_lit ?_
        refine s1 hK rfl rfl rfl rfl fun a hK => ?_
        refine wpList_nil (nm_then ?_)
        refine wp_block ?_
        refine c_loop (fun n a w => ∃ (i63 : Int), K 85 [(1, .pointer (some (⟨b14, 0, none⟩ : Addr))), (3, .pointer (some (⟨b36, 0, none⟩ : Addr))), (5, .int .i64 (i63))] a ∧ St [] w0 w [([b14], w16), ([b36], w39)] ∧ d_spec_Class_L2 fu r1 x32 n i63 = some r) ?_ ?_ fu _ _ ?_
        · rintro a w ⟨_, _, _, h⟩
          cases (show none = some _ from h)
        · rintro m64 a w62 ⟨i63, hK, hM, h⟩
          rw [d_spec_Class_L2_s] at h
          unfold d_spec_Class_L2_B at h
          refine wp_seq ?_
          refine wp_seq ?_
          refine wp_region_lit ?_
          refine s1 hK rfl rfl rfl rfl fun a hK => ?_
          refine s_val hK rfl rfl rfl (r_fa fa40_6 hK rfl rfl) fun a hK => ?_
          refine s_val hK rfl rfl rfl (r_ldb t138 hM 0 hb15 9 hK rfl rfl rfl rfl rfl) fun a hK => ?_
          refine s_val hK rfl rfl rfl (r_len (α := Item) hf13 hK Tryz.underlying38 rfl rfl) fun a hK => ?_
          refine s1 hK rfl rfl rfl rfl fun a hK => ?_
          refine wpList_nil (nm_then ?_)
          refine c_cond (b := decide (i63 < ((r1.fItems.length : Int)))) hK rfl (fun hb65 => ?_) (fun hb65 => ?_)
          · have h := bif_t hb65 h
            refine wp_skip (nm_then ?_)
            refine wp_seq ?_
            refine wp_block ?_
            refine wp_seq ?_
            refine d_go [] mixo hM rfl fun w66 hMd => ?_
            have hM := hMd
            have hS := Ext.refl ([] : List Nat) w66
            refine d_take hK 0 rfl (by kernel_rfl) (by kernel_rfl) (by kernel_rfl) rfl rfl rfl hS (fun _ _ _ h => h) (fun w hS => r_fa fa40_6 hK rfl rfl) fun a hK => ?_
            refine d_take hK 1 rfl (by kernel_rfl) (by kernel_rfl) (by kernel_rfl) rfl rfl rfl hS (fun _ _ _ h => h) (fun w hS => r_ld1 t138 (r := []) (hb15.at ((hMd.step hS).a 0 rfl) 9 1 rfl rfl rfl) hK rfl rfl) fun a hK => ?_
            refine d_pure hK 2 rfl (by kernel_rfl) (by kernel_rfl) (by kernel_rfl) rfl rfl rfl hS (fun _ _ _ h => h) rfl fun a hK => ?_
            obtain ⟨x67, hx68, h⟩ := obind_some h
            refine d_take hK 3 rfl (by kernel_rfl) (by kernel_rfl) (by kernel_rfl) rfl rfl rfl hS (fun _ _ _ h => h) (fun w hS => r_ixa hf13 hx68 hK ts38 rfl rfl rfl) fun a hK => ?_
            refine d_take hK 4 rfl (by kernel_rfl) (by kernel_rfl) (by kernel_rfl) rfl rfl rfl hS (fun _ _ _ h => h) (fun w hS => r_lde hf13 ((hMd.step hS).a00 (Enc.rd_lt hf13)) hx68 ta120 hK rfl rfl) fun a hK => ?_
            refine d_take hK 5 rfl (by kernel_rfl) (by kernel_rfl) (by kernel_rfl) rfl rfl rfl hS (fun _ _ _ h => h) (fun w hS => r_ldA ta92 (hb40.at ((hMd.step hS).a 1 rfl) 0 7 rfl rfl rfl) rfl hK rfl rfl) fun a hK => ?_
            refine d_one 6 (by kernel_rfl) rfl ?_
            obtain ⟨x69, hx70, h⟩ := obind_some h
            refine s_call hK Tryz.call135 rfl rfl rfl rfl rfl (c_spec_Fits fu (x67 : Item) (x32.1 : Typ)  hx70) fun e71 w72 hR => ?_
            obtain ⟨rfl, hE⟩ := hR
            refine ⟨_, rfl, fun a hK => ?_⟩
            have hM := hM.step hE
            have hS := hS.trans hE (by simp)
            refine wpList_nil ⟨hS, ?_⟩
            refine d_pure hK 7 rfl (by kernel_rfl) (by kernel_rfl) (by kernel_rfl) rfl rfl rfl hS (fun _ _ _ h => h) rfl fun a hK => ?_
            refine d_done (by kernel_rfl) ?_
            refine (nm_then ?_)
            refine c_cond (b := !x69) hK rfl (fun hb73 => ?_) (fun hb73 => ?_)
            · have h := bif_t hb73 h
              refine wp_seq ?_
              refine wp_region_lit ?_
              refine s1 hK rfl rfl rfl rfl fun a hK => ?_
              refine wpList_nil (nm_then ?_)
              refine wp_ret (rt_block (rt_then (rt_then (rt_block (rt_then ?_)))))
              have h := Option.some.inj h
              subst h
              exact finR1 hK rfl (RV.tmp hK rfl) ⟨rfl, hM.ext⟩
            · have h := bif_f hb73 h
              refine wp_skip (nm_block (nm_then ?_))
              refine wp_region_lit ?_
              iterate 3 (refine s1 hK rfl rfl rfl rfl fun a hK => ?_)
              refine wpList_nil (nm_then ?_)
              exact ⟨w64 (i63 + 1), hK.keep [1, 3, 5] rfl, hM.sel [0, 1] rfl (by decide), h⟩
          · have h := bif_f hb65 h
            refine wp_exit (ex_then (ex_then (ex_same (nm_then ?_))))
            refine wp_seq ?_
            refine wp_seq ?_
            refine wp_region_lit ?_
            refine s1 hK rfl rfl rfl rfl fun a hK => ?_
            refine wpList_nil (nm_then ?_)
            refine wp_block ?_
            refine c_loop (fun n a w => ∃ (i126 : Int), K 85 [(1, .pointer (some (⟨b14, 0, none⟩ : Addr))), (6, .int .i64 (i126))] a ∧ St [] w0 w [([b14], w16)] ∧ d_spec_Class_L1 fu r1 n i126 = some r) ?_ ?_ fu _ _ ?_
            · rintro a w ⟨_, _, _, h⟩
              cases (show none = some _ from h)
            · rintro m127 a w125 ⟨i126, hK, hM, h⟩
              rw [d_spec_Class_L1_s] at h
              unfold d_spec_Class_L1_B at h
              refine wp_seq ?_
              refine wp_seq ?_
              refine wp_region_lit ?_
              refine s1 hK rfl rfl rfl rfl fun a hK => ?_
              refine s_val hK rfl rfl rfl (r_fa fa40_4 hK rfl rfl) fun a hK => ?_
              refine s_val hK rfl rfl rfl (r_ldb t137 hM 0 hb15 7 hK rfl rfl rfl rfl rfl) fun a hK => ?_
              refine s_val hK rfl rfl rfl (r_len (α := Typ) hf12 hK Tryz.underlying37 rfl rfl) fun a hK => ?_
              refine s1 hK rfl rfl rfl rfl fun a hK => ?_
              refine wpList_nil (nm_then ?_)
              refine c_cond (b := decide (i126 < ((r1.fTypes.length : Int)))) hK rfl (fun hb128 => ?_) (fun hb128 => ?_)
              · have h := bif_t hb128 h
                refine wp_skip (nm_then ?_)
                refine c_cut (fun a w => K 85 [(1, .pointer (some (⟨b14, 0, none⟩ : Addr))), (6, .int .i64 (i126))] a ∧ St [] w0 w [([b14], w16)] ∧ d_spec_Class_J1 fu (d_spec_Class_L1 fu r1 m127) i126 = some r) ?_ ?_
                · rintro a w140 ⟨hK, hM, h⟩
                  unfold d_spec_Class_J1 at h
                  refine wp_region_lit ?_
                  iterate 3 (refine s1 hK rfl rfl rfl rfl fun a hK => ?_)
                  refine wpList_nil (nm_then ?_)
                  exact ⟨w64 (i126 + 1), hK.keep [1, 6] rfl, hM.sel [0] rfl (by decide), h⟩
                · refine wp_block ?_
                  refine wp_seq ?_
                  refine wp_region_lit ?_
                  refine s_val hK rfl rfl rfl (r_fa fa40_4 hK rfl rfl) fun a hK => ?_
                  refine s_val hK rfl rfl rfl (r_ldb t137 hM 0 hb15 7 hK rfl rfl rfl rfl rfl) fun a hK => ?_
                  refine s1 hK rfl rfl rfl rfl fun a hK => ?_
                  obtain ⟨x141, hx142, h⟩ := obind_some h
                  refine s_val hK rfl rfl rfl (r_ixa hf12 hx142 hK ts37 rfl rfl rfl) fun a hK => ?_
                  refine s_val hK rfl rfl rfl (r_lde hf12 (hM.a00 (Enc.rd_lt hf12)) hx142 ta92 hK rfl rfl) fun a hK => ?_
                  refine s_alloc (cs := [.int .i64 (0), .int .i64 (0), .int .i64 (0), .int .i64 (0), .int .i64 (0), .int .i64 (0), .int .i64 (0)]) hM hK Tryz.zeroValue92 rfl rfl rfl rfl rfl fun b143 w145 a hK hM hE hb144 => ?_
                  refine s_stb (cs' := [.int .i64 (x141.fId), .int .i64 (x141.fW), .int .i64 (x141.fH), .int .i64 (x141.fD), .int .i64 (x141.fTare), .int .i64 (x141.fGram), .int .i64 (x141.fCost)]) Tryz.sizeOf92 hM 0 hb144 0 hK rfl rfl rfl rfl rfl rfl rfl rfl rfl rfl rfl fun w146 a hK hE hM hb147 => ?_
                  refine wpList_nil (nm_then ?_)
                  refine wp_seq ?_
                  refine wp_region_lit ?_
                  refine s_val hK rfl rfl rfl (r_fa fa92_1 hK rfl rfl) fun a hK => ?_
                  refine s_val hK rfl rfl rfl (r_ldb t13 hM 0 hb147 1 hK rfl rfl rfl rfl rfl) fun a hK => ?_
                  refine s_val hK rfl rfl rfl (r_fa fa40_1 hK rfl rfl) fun a hK => ?_
                  refine s_val hK rfl rfl rfl (r_fa fa35_0 hK rfl rfl) fun a hK => ?_
                  refine s_val hK rfl rfl rfl (r_ldb t13 hM 1 hb15 1 hK rfl rfl rfl rfl rfl) fun a hK => ?_
                  iterate 2 (refine s1 hK rfl rfl rfl rfl fun a hK => ?_)
                  refine bsplit (decide (x141.fW > r1.fPallet.fW)) (fun hb148 => ?_) (fun hb148 => ?_)
                  · have h := bif_t hb148 h
                    have hK := hK.re (d := 58) rfl (congrArg Value.bool hb148)
                    refine sk hK rfl rfl rfl fun a hK => ?_
                    refine sk hK rfl rfl rfl fun a hK => ?_
                    refine sk hK rfl rfl rfl fun a hK => ?_
                    refine sk hK rfl rfl rfl fun a hK => ?_
                    refine sk hK rfl rfl rfl fun a hK => ?_
                    refine sk hK rfl rfl rfl fun a hK => ?_
                    iterate 2 (refine s1 hK rfl rfl rfl rfl fun a hK => ?_)
                    refine sk hK rfl rfl rfl fun a hK => ?_
                    refine sk hK rfl rfl rfl fun a hK => ?_
                    refine sk hK rfl rfl rfl fun a hK => ?_
                    refine sk hK rfl rfl rfl fun a hK => ?_
                    refine sk hK rfl rfl rfl fun a hK => ?_
                    refine sk hK rfl rfl rfl fun a hK => ?_
                    iterate 2 (refine s1 hK rfl rfl rfl rfl fun a hK => ?_)
                    refine sk hK rfl rfl rfl fun a hK => ?_
                    refine sk hK rfl rfl rfl fun a hK => ?_
                    refine sk hK rfl rfl rfl fun a hK => ?_
                    refine sk hK rfl rfl rfl fun a hK => ?_
                    refine sk hK rfl rfl rfl fun a hK => ?_
                    refine sk hK rfl rfl rfl fun a hK => ?_
                    refine sk hK rfl rfl rfl fun a hK => ?_
                    refine sk hK rfl rfl rfl fun a hK => ?_
                    refine sk hK rfl rfl rfl fun a hK => ?_
                    refine s1 hK rfl rfl rfl rfl fun a hK => ?_
                    have hK := hK.keep [1, 6, 84] rfl
                    refine wpList_nil (nm_then ?_)
                    refine wp_cond_true (hK.ev rfl) ?_
                    refine wp_seq ?_
                    refine wp_region_lit ?_
                    refine s1 hK rfl rfl rfl rfl fun a hK => ?_
                    refine wpList_nil (nm_then ?_)
                    refine wp_ret (rt_block (rt_then (rt_then (rt_block (rt_then ?_)))))
                    have h := Option.some.inj h
                    subst h
                    exact finR1 hK rfl (RV.tmp hK rfl) ⟨rfl, hM.ext⟩
                  · have h := bif_f hb148 h
                    have hK := hK.re (d := 58) rfl (congrArg Value.bool hb148)
                    refine s_val hK rfl rfl rfl (r_fa fa92_3 hK rfl rfl) fun a hK => ?_
                    refine s_val hK rfl rfl rfl (r_ldb t13 hM 0 hb147 3 hK rfl rfl rfl rfl rfl) fun a hK => ?_
                    refine s_val hK rfl rfl rfl (r_fa fa40_1 hK rfl rfl) fun a hK => ?_
                    refine s_val hK rfl rfl rfl (r_fa fa35_1 hK rfl rfl) fun a hK => ?_
                    refine s_val hK rfl rfl rfl (r_ldb t13 hM 1 hb15 2 hK rfl rfl rfl rfl rfl) fun a hK => ?_
                    iterate 3 (refine s1 hK rfl rfl rfl rfl fun a hK => ?_)
                    refine bsplit (decide (x141.fD > r1.fPallet.fD)) (fun hb149 => ?_) (fun hb149 => ?_)
                    · have h := bif_t hb149 h
                      have hK := hK.re (d := 66) rfl (congrArg Value.bool hb149)
                      refine sk hK rfl rfl rfl fun a hK => ?_
                      refine sk hK rfl rfl rfl fun a hK => ?_
                      refine sk hK rfl rfl rfl fun a hK => ?_
                      refine sk hK rfl rfl rfl fun a hK => ?_
                      refine sk hK rfl rfl rfl fun a hK => ?_
                      refine sk hK rfl rfl rfl fun a hK => ?_
                      iterate 2 (refine s1 hK rfl rfl rfl rfl fun a hK => ?_)
                      refine sk hK rfl rfl rfl fun a hK => ?_
                      refine sk hK rfl rfl rfl fun a hK => ?_
                      refine sk hK rfl rfl rfl fun a hK => ?_
                      refine sk hK rfl rfl rfl fun a hK => ?_
                      refine sk hK rfl rfl rfl fun a hK => ?_
                      refine sk hK rfl rfl rfl fun a hK => ?_
                      refine sk hK rfl rfl rfl fun a hK => ?_
                      refine sk hK rfl rfl rfl fun a hK => ?_
                      refine sk hK rfl rfl rfl fun a hK => ?_
                      refine s1 hK rfl rfl rfl rfl fun a hK => ?_
                      have hK := hK.keep [1, 6, 84] rfl
                      refine wpList_nil (nm_then ?_)
                      refine wp_cond_true (hK.ev rfl) ?_
                      refine wp_seq ?_
                      refine wp_region_lit ?_
                      refine s1 hK rfl rfl rfl rfl fun a hK => ?_
                      refine wpList_nil (nm_then ?_)
                      refine wp_ret (rt_block (rt_then (rt_then (rt_block (rt_then ?_)))))
                      have h := Option.some.inj h
                      subst h
                      exact finR1 hK rfl (RV.tmp hK rfl) ⟨rfl, hM.ext⟩
                    · have h := bif_f hb149 h
                      have hK := hK.re (d := 66) rfl (congrArg Value.bool hb149)
                      refine s_val hK rfl rfl rfl (r_fa fa92_2 hK rfl rfl) fun a hK => ?_
                      refine s_val hK rfl rfl rfl (r_ldb t13 hM 0 hb147 2 hK rfl rfl rfl rfl rfl) fun a hK => ?_
                      refine s_val hK rfl rfl rfl (r_fa fa40_1 hK rfl rfl) fun a hK => ?_
                      refine s_val hK rfl rfl rfl (r_fa fa35_2 hK rfl rfl) fun a hK => ?_
                      refine s_val hK rfl rfl rfl (r_ldb t13 hM 1 hb15 3 hK rfl rfl rfl rfl rfl) fun a hK => ?_
                      iterate 3 (refine s1 hK rfl rfl rfl rfl fun a hK => ?_)
                      refine bsplit (decide (x141.fH > r1.fPallet.fH)) (fun hb150 => ?_) (fun hb150 => ?_)
                      · have h := bif_t hb150 h
                        have hK := hK.re (d := 74) rfl (congrArg Value.bool hb150)
                        refine sk hK rfl rfl rfl fun a hK => ?_
                        refine sk hK rfl rfl rfl fun a hK => ?_
                        refine sk hK rfl rfl rfl fun a hK => ?_
                        refine sk hK rfl rfl rfl fun a hK => ?_
                        refine sk hK rfl rfl rfl fun a hK => ?_
                        refine sk hK rfl rfl rfl fun a hK => ?_
                        refine sk hK rfl rfl rfl fun a hK => ?_
                        refine sk hK rfl rfl rfl fun a hK => ?_
                        refine sk hK rfl rfl rfl fun a hK => ?_
                        refine s1 hK rfl rfl rfl rfl fun a hK => ?_
                        have hK := hK.keep [1, 6, 84] rfl
                        refine wpList_nil (nm_then ?_)
                        refine wp_cond_true (hK.ev rfl) ?_
                        refine wp_seq ?_
                        refine wp_region_lit ?_
                        refine s1 hK rfl rfl rfl rfl fun a hK => ?_
                        refine wpList_nil (nm_then ?_)
                        refine wp_ret (rt_block (rt_then (rt_then (rt_block (rt_then ?_)))))
                        have h := Option.some.inj h
                        subst h
                        exact finR1 hK rfl (RV.tmp hK rfl) ⟨rfl, hM.ext⟩
                      · have h := bif_f hb150 h
                        have hK := hK.re (d := 74) rfl (congrArg Value.bool hb150)
                        refine s_val hK rfl rfl rfl (r_fa fa92_4 hK rfl rfl) fun a hK => ?_
                        refine s_val hK rfl rfl rfl (r_ldb t13 hM 0 hb147 4 hK rfl rfl rfl rfl rfl) fun a hK => ?_
                        refine s_val hK rfl rfl rfl (r_fa fa92_5 hK rfl rfl) fun a hK => ?_
                        refine s_val hK rfl rfl rfl (r_ldb t13 hM 0 hb147 5 hK rfl rfl rfl rfl rfl) fun a hK => ?_
                        refine s1 hK rfl rfl rfl rfl fun a hK => ?_
                        refine s_val hK rfl rfl rfl (r_fa fa40_1 hK rfl rfl) fun a hK => ?_
                        refine s_val hK rfl rfl rfl (r_fa fa35_3 hK rfl rfl) fun a hK => ?_
                        refine s_val hK rfl rfl rfl (r_ldb t13 hM 1 hb15 4 hK rfl rfl rfl rfl rfl) fun a hK => ?_
                        iterate 2 (refine s1 hK rfl rfl rfl rfl fun a hK => ?_)
                        have hK := hK.keep [1, 6, 84] rfl
                        refine wpList_nil (nm_then ?_)
                        refine c_cond (b := decide ((w64 (x141.fTare + x141.fGram)) > r1.fPallet.fGram)) hK rfl (fun hb151 => ?_) (fun hb151 => ?_)
                        · have h := bif_t hb151 h
                          refine wp_seq ?_
                          refine wp_region_lit ?_
                          refine s1 hK rfl rfl rfl rfl fun a hK => ?_
                          refine wpList_nil (nm_then ?_)
                          refine wp_ret (rt_block (rt_then (rt_then (rt_block (rt_then ?_)))))
                          have h := Option.some.inj h
                          subst h
                          exact finR1 hK rfl (RV.tmp hK rfl) ⟨rfl, hM.ext⟩
                        · have h := bif_f hb151 h
                          refine wp_skip (nm_block (nm_then ?_))
                          exact ⟨hK.keep [1, 6] rfl, hM.sel [1] rfl (by decide), h⟩
              · have h := bif_f hb128 h
                refine wp_exit (ex_then (ex_then (ex_same (nm_then ?_))))
                refine wp_seq ?_
                refine wp_region_lit ?_
                refine s1 hK rfl rfl rfl rfl fun a hK => ?_
                refine wpList_nil (nm_then ?_)
                refine wp_ret ?_
                have h := Option.some.inj h
                subst h
                exact finR1 hK rfl (RV.tmp hK rfl) ⟨rfl, hM.ext⟩
            · exact ⟨0, hK.keep [1, 6] rfl, hM.sel [0] rfl (by decide), h⟩
        · exact ⟨0, hK.keep [1, 3, 5] rfl, hM.sel [1, 0] rfl (by decide), h⟩

theorem c_spec_l6Units (fu : Nat) {w0 : World} (r1 : Request) {cs2 : List Value} {F3 : List Nat} (hp4 : rd w0 F3 cs2 r1) {r : (List Int)}
    (h : d_spec_l6Units fu r1 = some r) :
    Calls Tryz.prog 106 #[.agg cs2.toArray] w0 fun e w => ∃ (v0 : Value) (G0 : List Nat), e = .returned (v0) ∧ Ext [] w0 w ∧ ow w G0 [v0] r ∧ (∀ b ∈ G0, w0.heap.size ≤ b) := by
  refine enter (vs := [_]) Tryz.func106 rfl Tryz.ntmps106 rfl fun a hK => ?_
  have hM := St.start w0
  obtain ⟨v5, F6, v7, F8, v9, F10, rfl, rfl, hf11, hf12, hf13⟩ := hp4
  unfold d_spec_l6Units at h
  refine wp_seq ?_
  refine wp_region_lit ?_
  refine s_box (cs := [.int .i64 (r1.fWay), .int .i64 (r1.fPallet.fW), .int .i64 (r1.fPallet.fD), .int .i64 (r1.fPallet.fH), .int .i64 (r1.fPallet.fGram), .int .i64 (r1.fClasses), v5, v7, .int .i64 (r1.fMaster), v9]) hM hK rfl rfl rfl rfl rfl rfl fun b14 w16 a hK hM hE hb15 => ?_
  refine s1 hK rfl rfl rfl rfl fun a hK => ?_
  refine wpList_nil (nm_then ?_)
  refine wp_seq ?_
  refine wp_region_lit ?_
  refine s_bs (cs := []) (ps := []) te29 hM hK rfl rfl rfl rfl rfl rfl rfl (by decide) rfl (by exact (List.forall_mem_nil _)) fun g17 w18 e20 a hK hM hE hb19 => ?_
  have hf21 := ow_bx hb19 ([] : List Int) rfl rfl rfl
  refine s1 hK rfl rfl rfl rfl fun a hK => ?_
  refine wpList_nil (nm_then ?_)
  refine wp_seq ?_
  refine wp_seq ?_
  refine wp_region_lit ?_
  refine s1 hK rfl rfl rfl rfl fun a hK => ?_
  refine wpList_nil (nm_then ?_)
  refine wp_block ?_
  refine c_loop (fun n a w => ∃ (out149 : List Int) (v150 : Value) (F151 : List Nat) (u152 : World) (i154 : Int), K 29 [(1, .pointer (some (⟨b14, 0, none⟩ : Addr))), (3, v150), (4, .int .i64 (i154))] a ∧ St [] w0 w [([b14], w16), (F151, u152)] ∧ ow u152 F151 [v150] out149 ∧ d_spec_l6Units_L2 fu r1 n out149 i154 = some r) ?_ ?_ fu _ _ ?_
  · rintro a w ⟨_, _, _, _, _, _, _, _, h⟩
    cases (show none = some _ from h)
  · rintro m155 a w148 ⟨out149, v150, F151, u152, i154, hK, hM, hf153, h⟩
    rw [d_spec_l6Units_L2_s] at h
    unfold d_spec_l6Units_L2_B at h
    refine wp_seq ?_
    refine wp_seq ?_
    refine wp_region_lit ?_
    refine s1 hK rfl rfl rfl rfl fun a hK => ?_
    refine s_val hK rfl rfl rfl (r_fa fa40_6 hK rfl rfl) fun a hK => ?_
    refine s_val hK rfl rfl rfl (r_ldb t138 hM 0 hb15 9 hK rfl rfl rfl rfl rfl) fun a hK => ?_
    refine s_val hK rfl rfl rfl (r_len (α := Item) hf13 hK Tryz.underlying38 rfl rfl) fun a hK => ?_
    refine s1 hK rfl rfl rfl rfl fun a hK => ?_
    refine wpList_nil (nm_then ?_)
    refine c_cond (b := decide (i154 < ((r1.fItems.length : Int)))) hK rfl (fun hb156 => ?_) (fun hb156 => ?_)
    · have h := bif_t hb156 h
      refine wp_skip (nm_then ?_)
      refine wp_seq ?_
      refine wp_block ?_
      refine wp_seq ?_
      refine wp_region_lit ?_
      refine s1 hK rfl rfl rfl rfl fun a hK => ?_
      refine wpList_nil (nm_then ?_)
      refine wp_block ?_
      refine c_loop (fun n a w => ∃ (out194 : List Int) (v195 : Value) (F196 : List Nat) (u197 : World) (kv199 : Int), K 29 [(1, .pointer (some (⟨b14, 0, none⟩ : Addr))), (3, v195), (4, .int .i64 (i154)), (5, .int .i64 (kv199))] a ∧ St [] w0 w [([b14], w16), (F196, u197)] ∧ ow u197 F196 [v195] out194 ∧ d_spec_l6Units_L1 fu (d_spec_l6Units_L2 fu r1 m155) r1 i154 n out194 kv199 = some r) ?_ ?_ fu _ _ ?_
      · rintro a w ⟨_, _, _, _, _, _, _, _, h⟩
        cases (show none = some _ from h)
      · rintro m200 a w193 ⟨out194, v195, F196, u197, kv199, hK, hM, hf198, h⟩
        rw [d_spec_l6Units_L1_s] at h
        unfold d_spec_l6Units_L1_B at h
        refine wp_seq ?_
        refine wp_seq ?_
        refine wp_region_lit ?_
        refine s1 hK rfl rfl rfl rfl fun a hK => ?_
        refine s_val hK rfl rfl rfl (r_fa fa40_6 hK rfl rfl) fun a hK => ?_
        refine s_val hK rfl rfl rfl (r_ldb t138 hM 0 hb15 9 hK rfl rfl rfl rfl rfl) fun a hK => ?_
        refine s1 hK rfl rfl rfl rfl fun a hK => ?_
        obtain ⟨x201, hx202, h⟩ := obind_some h
        refine s_val hK rfl rfl rfl (r_ixa hf13 hx202 hK ts38 rfl rfl rfl) fun a hK => ?_
        refine s_val hK rfl rfl rfl (r_fa fa120_6 hK rfl rfl) fun a hK => ?_
        refine s_val hK rfl rfl rfl (r_lde1 hf13 (hM.a00 (Enc.rd_lt hf13)) hx202 6 t13 hK rfl rfl rfl rfl) fun a hK => ?_
        refine s1 hK rfl rfl rfl rfl fun a hK => ?_
        refine wpList_nil (nm_then ?_)
        refine c_cond (b := decide (kv199 < x201.fCount)) hK rfl (fun hb203 => ?_) (fun hb203 => ?_)
        · have h := bif_t hb203 h
          refine wp_skip (nm_then ?_)
          refine wp_seq ?_
          refine wp_block ?_
          refine wp_region_lit ?_
          iterate 2 (refine s1 hK rfl rfl rfl rfl fun a hK => ?_)
          refine s_bs (cs := [.int .i64 (i154)]) (ps := [(0, .tmp 25)]) te29 hM hK rfl rfl rfl rfl rfl rfl rfl (by decide) rfl (by exact (List.forall_mem_cons.2 ⟨rfl, (List.forall_mem_nil _)⟩)) fun g204 w205 e207 a hK hM hE hb206 => ?_
          have hf208 := ow_bx hb206 ([i154] : List Int) rfl rfl rfl
          obtain ⟨x209, hx210, h⟩ := obind_some h
          refine s_appF hx210 te29 rfl hM 2 hf198 (News.rd (Enc.rd_agr (Enc.ow_rd hf208) (hM.a 0 rfl))) rfl rfl hK rfl rfl rfl rfl rfl rfl rfl fun v211 F212 w213 a hK hE hM hf214 => ?_
          refine s1 hK rfl rfl rfl rfl fun a hK => ?_
          refine wpList_nil (nm_block (nm_then ?_))
          refine wp_region_lit ?_
          iterate 3 (refine s1 hK rfl rfl rfl rfl fun a hK => ?_)
          refine wpList_nil (nm_then ?_)
          exact ⟨x209, v211, F212, w213, w64 (kv199 + 1), hK.keep [1, 3, 4, 5] rfl, hM.sel [1, 2] rfl (by decide), hf214, h⟩
        · have h := bif_f hb203 h
          refine wp_exit (ex_then (ex_then (ex_same (nm_block (nm_then ?_)))))
          refine wp_region_lit ?_
          iterate 3 (refine s1 hK rfl rfl rfl rfl fun a hK => ?_)
          refine wpList_nil (nm_then ?_)
          exact ⟨out194, v195, F196, u197, w64 (i154 + 1), hK.keep [1, 3, 4] rfl, hM.sel [0, 1] rfl (by decide), hf198, h⟩
      · exact ⟨out149, v150, F151, u152, 0, hK.keep [1, 3, 4, 5] rfl, hM.sel [0, 1] rfl (by decide), hf153, h⟩
    · have h := bif_f hb156 h
      refine wp_exit (ex_then (ex_then (ex_same (nm_then ?_))))
      refine wp_seq ?_
      refine wp_region_lit ?_
      iterate 2 (refine s1 hK rfl rfl rfl rfl fun a hK => ?_)
      refine wpList_nil (nm_then ?_)
      refine wp_ret ?_
      have h := Option.some.inj h
      subst h
      exact finR1 hK rfl (RV.tmp hK rfl) ⟨_, F151, rfl, hM.ext, (Enc.ow_agr hf153 (hM.a 1 rfl)), (hM.fresh 1 rfl)⟩
  · exact ⟨([] : List Int), (.slice (some ⟨g17, 0, none⟩) 0 0), [g17], w18, 0, hK.keep [1, 3, 4] rfl, hM.sel [1, 0] rfl (by decide), hf21, h⟩

theorem c_spec_Units (fu : Nat) {w0 : World} (r1 : Request) {cs2 : List Value} {F3 : List Nat} (hp4 : rd w0 F3 cs2 r1) {r : (List Int)}
    (h : d_spec_Units fu r1 = some r) :
    Calls Tryz.prog 83 #[.agg cs2.toArray] w0 fun e w => ∃ (v0 : Value) (G0 : List Nat), e = .returned (v0) ∧ Ext [] w0 w ∧ ow w G0 [v0] r ∧ (∀ b ∈ G0, w0.heap.size ≤ b) := by
  refine enter (vs := [_]) Tryz.func83 rfl Tryz.ntmps83 rfl fun a hK => ?_
  have hM := St.start w0
  obtain ⟨v5, F6, v7, F8, v9, F10, rfl, rfl, hf11, hf12, hf13⟩ := hp4
  unfold d_spec_Units at h
  refine wp_seq ?_
  refine wp_region_lit ?_
  refine s_box (cs := [.int .i64 (r1.fWay), .int .i64 (r1.fPallet.fW), .int .i64 (r1.fPallet.fD), .int .i64 (r1.fPallet.fH), .int .i64 (r1.fPallet.fGram), .int .i64 (r1.fClasses), v5, v7, .int .i64 (r1.fMaster), v9]) hM hK rfl rfl rfl rfl rfl rfl fun b14 w16 a hK hM hE hb15 => ?_
  refine s1 hK rfl rfl rfl rfl fun a hK => ?_
  refine wpList_nil (nm_then ?_)
  refine wp_seq ?_
  refine wp_seq ?_
  refine wp_region_lit ?_
  refine s_val hK rfl rfl rfl (r_ldB ta40 hM 0 hb15 0 hK rfl rfl rfl rfl rfl rfl) fun a hK => ?_
  obtain ⟨x17, hx18, h⟩ := obind_some h
  refine s_call hK Tryz.call68 rfl rfl rfl rfl rfl (c_spec_Class fu _ (show rd _ _ [.int .i64 (r1.fWay), .int .i64 (r1.fPallet.fW), .int .i64 (r1.fPallet.fD), .int .i64 (r1.fPallet.fH), .int .i64 (r1.fPallet.fGram), .int .i64 (r1.fClasses), v5, v7, .int .i64 (r1.fMaster), v9] (r1 : Request) from ⟨_, _, _, _, _, _, rfl, rfl, (Enc.rd_agr hf11 (hM.a00 (Enc.rd_lt hf11))), (Enc.rd_agr hf12 (hM.a00 (Enc.rd_lt hf12))), (Enc.rd_agr hf13 (hM.a00 (Enc.rd_lt hf13)))⟩) hx18) fun e19 w20 hR => ?_
  obtain ⟨rfl, hE⟩ := hR
  refine ⟨_, rfl, fun a hK => ?_⟩
  have hM := hM.step hE
  refine s1 hK rfl rfl rfl rfl fun a hK => ?_
  refine wpList_nil (nm_then ?_)
  refine c_cond (b := x17 != 0) hK rfl (fun hb21 => ?_) (fun hb21 => ?_)
  · have h := bif_t hb21 h
    refine wp_seq ?_
    refine wp_region_lit ?_
    refine s_bs (cs := []) (ps := []) te29 hM hK rfl rfl rfl rfl rfl rfl rfl (by decide) rfl (by exact (List.forall_mem_nil _)) fun g22 w23 e25 a hK hM hE hb24 => ?_
    have hf26 := ow_bx hb24 ([] : List Int) rfl rfl rfl
    refine s1 hK rfl rfl rfl rfl fun a hK => ?_
    refine wpList_nil (nm_then ?_)
    refine wp_ret (rt_then ?_)
    have h := Option.some.inj h
    subst h
    exact finR1 hK rfl (RV.tmp hK rfl) ⟨_, [g22], rfl, hM.ext, (Enc.ow_agr hf26 (hM.a 0 rfl)), (hM.fresh 0 rfl)⟩
  · have h := bif_f hb21 h
    refine wp_skip (nm_then ?_)
    refine wp_seq ?_
    refine wp_region_lit ?_
    refine s_val hK rfl rfl rfl (r_ldB ta40 hM 0 hb15 0 hK rfl rfl rfl rfl rfl rfl) fun a hK => ?_
    obtain ⟨x27, hx28, h⟩ := obind_some h
    refine s_call hK Tryz.call106 rfl rfl rfl rfl rfl (c_spec_l6Units fu _ (show rd _ _ [.int .i64 (r1.fWay), .int .i64 (r1.fPallet.fW), .int .i64 (r1.fPallet.fD), .int .i64 (r1.fPallet.fH), .int .i64 (r1.fPallet.fGram), .int .i64 (r1.fClasses), v5, v7, .int .i64 (r1.fMaster), v9] (r1 : Request) from ⟨_, _, _, _, _, _, rfl, rfl, (Enc.rd_agr hf11 (hM.a00 (Enc.rd_lt hf11))), (Enc.rd_agr hf12 (hM.a00 (Enc.rd_lt hf12))), (Enc.rd_agr hf13 (hM.a00 (Enc.rd_lt hf13)))⟩) hx28) fun e29 w30 hR => ?_
    obtain ⟨v35, F31, rfl, hE, hf32, hfr33⟩ := hR
    refine ⟨_, rfl, fun a hK => ?_⟩
    have hM := hM.new hE F31 (fun b hb => ⟨hfr33 b hb, Enc.rd_lt (Enc.ow_rd hf32) b hb⟩) (Enc.ow_nd hf32)
    refine s1 hK rfl rfl rfl rfl fun a hK => ?_
    refine wpList_nil (nm_then ?_)
    refine wp_ret ?_
    have h := Option.some.inj h
    subst h
    exact finR1 hK rfl (RV.tmp hK rfl) ⟨_, F31, rfl, hM.ext, (Enc.ow_agr hf32 (hM.a 0 rfl)), (hM.fresh 0 rfl)⟩

theorem c_spec_l6Item (fu : Nat) {w0 : World} (r1 : Request) (units5 : List Int) (u9 : Int) {cs2 : List Value} {F3 : List Nat} (hp4 : rd w0 F3 cs2 r1) {v6 : Value} {F7 : List Nat} (hp8 : rd w0 F7 [v6] units5) {r : Item × Bool}
    (h : d_spec_l6Item fu r1 units5 u9 = some r) :
    Calls Tryz.prog 102 #[.agg cs2.toArray, v6, .int .i64 (u9)] w0 fun e w => e = .returned (.tuple #[.agg (Flat.e r.1).toArray, .bool (r.2)]) ∧ Ext [] w0 w := by
  refine enter (vs := [_, _, _]) Tryz.func102 rfl Tryz.ntmps102 rfl fun a hK => ?_
  have hM := St.start w0
  obtain ⟨v10, F11, v12, F13, v14, F15, rfl, rfl, hf16, hf17, hf18⟩ := hp4
  unfold d_spec_l6Item at h
  refine wp_seq ?_
  refine wp_region_lit ?_
  refine s_box (cs := [.int .i64 (r1.fWay), .int .i64 (r1.fPallet.fW), .int .i64 (r1.fPallet.fD), .int .i64 (r1.fPallet.fH), .int .i64 (r1.fPallet.fGram), .int .i64 (r1.fClasses), v10, v12, .int .i64 (r1.fMaster), v14]) hM hK rfl rfl rfl rfl rfl rfl fun b19 w21 a hK hM hE hb20 => ?_
  refine s_alloc (cs := [.int .i64 (0), .int .i64 (0), .int .i64 (0), .int .i64 (0), .int .i64 (0), .int .i64 (0), .int .i64 (0)]) hM hK Tryz.zeroValue120 rfl rfl rfl rfl rfl fun b22 w24 a hK hM hE hb23 => ?_
  refine s1 hK rfl rfl rfl rfl fun a hK => ?_
  refine wpList_nil (nm_then ?_)
  refine wp_seq ?_
  refine wp_seq ?_
  refine wp_region_lit ?_
  iterate 2 (refine s1 hK rfl rfl rfl rfl fun a hK => ?_)
  refine s_val hK rfl rfl rfl (r_len (α := Int) hp8 hK Tryz.underlying29 rfl rfl) fun a hK => ?_
  refine s1 hK rfl rfl rfl rfl fun a hK => ?_
  obtain ⟨x25, hx26, h⟩ := obind_some h
  refine s_call hK Tryz.call136 rfl rfl rfl rfl rfl (c_spec_l1In fu _ _ _  hx26) fun e27 w28 hR => ?_
  obtain ⟨rfl, hE⟩ := hR
  refine ⟨_, rfl, fun a hK => ?_⟩
  have hM := hM.step hE
  refine s1 hK rfl rfl rfl rfl fun a hK => ?_
  refine wpList_nil (nm_then ?_)
  refine c_cond (b := !x25) hK rfl (fun hb29 => ?_) (fun hb29 => ?_)
  · have h := bif_t hb29 h
    refine wp_seq ?_
    refine wp_region_lit ?_
    refine s_val hK rfl rfl rfl (r_build bt120 hK (ps := []) rfl rfl rfl) fun a hK => ?_
    refine s_stb (cs' := [.int .i64 (0), .int .i64 (0), .int .i64 (0), .int .i64 (0), .int .i64 (0), .int .i64 (0), .int .i64 (0)]) Tryz.sizeOf120 hM 0 hb23 0 hK rfl rfl rfl rfl rfl rfl rfl rfl rfl rfl rfl fun w30 a hK hE hM hb31 => ?_
    refine s1 hK rfl rfl rfl rfl fun a hK => ?_
    refine wpList_nil (nm_then ?_)
    refine wp_ret (rt_then ?_)
    have h := Option.some.inj h
    subst h
    exact finR2 hK rfl (RV.cA hK rfl ta120 (hb31.at (hM.a 0 rfl) 0 7 rfl rfl rfl) rfl) (RV.tmp hK rfl) ⟨rfl, hM.ext⟩
  · have h := bif_f hb29 h
    refine wp_skip (nm_then ?_)
    refine wp_seq ?_
    refine d_go ([b22]) mixo hM rfl fun w32 hMd => ?_
    have hM := hMd
    have hS := Ext.refl (([b22]) : List Nat) w32
    refine d_take hK 0 rfl (by kernel_rfl) (by kernel_rfl) (by kernel_rfl) rfl rfl rfl hS (fun _ _ _ h => h) (fun w hS => r_fa fa40_6 hK rfl rfl) fun a hK => ?_
    refine d_take hK 1 rfl (by kernel_rfl) (by kernel_rfl) (by kernel_rfl) rfl rfl rfl hS (fun _ _ _ h => h) (fun w hS => r_ld1 t138 (r := []) (hb20.at (hMd.az 1 0 rfl rfl rfl hS) 9 1 rfl rfl rfl) hK rfl rfl) fun a hK => ?_
    refine d_pure hK 2 rfl (by kernel_rfl) (by kernel_rfl) (by kernel_rfl) rfl rfl rfl hS (fun _ _ _ h => h) rfl fun a hK => ?_
    refine d_pure hK 3 rfl (by kernel_rfl) (by kernel_rfl) (by kernel_rfl) rfl rfl rfl hS (fun _ _ _ h => h) rfl fun a hK => ?_
    obtain ⟨x33, hx34, h⟩ := obind_some h
    refine d_take hK 4 rfl (by kernel_rfl) (by kernel_rfl) (by kernel_rfl) rfl rfl rfl hS (fun _ _ _ h => h) (fun w hS => r_ixa hp8 hx34 hK ts29 rfl rfl rfl) fun a hK => ?_
    refine d_take hK 5 rfl (by kernel_rfl) (by kernel_rfl) (by kernel_rfl) rfl rfl rfl hS (fun _ _ _ h => h) (fun w hS => r_lde1 hp8 (hMd.az0 0 rfl rfl (Enc.rd_lt hp8) hS) hx34 0 t13 hK rfl rfl rfl rfl) fun a hK => ?_
    obtain ⟨x35, hx36, h⟩ := obind_some h
    refine d_take hK 6 rfl (by kernel_rfl) (by kernel_rfl) (by kernel_rfl) rfl rfl rfl hS (fun _ _ _ h => h) (fun w hS => r_ixa hf18 hx36 hK ts38 rfl rfl rfl) fun a hK => ?_
    refine d_take hK 7 rfl (by kernel_rfl) (by kernel_rfl) (by kernel_rfl) rfl rfl rfl hS (fun _ _ _ h => h) (fun w hS => r_lde hf18 (hMd.az0 0 rfl rfl (Enc.rd_lt hf18) hS) hx36 ta120 hK rfl rfl) fun a hK => ?_
    refine d_one 8 (by kernel_rfl) rfl ?_
    refine s_stb (cs' := [.int .i64 (x35.fId), .int .i64 (x35.fW), .int .i64 (x35.fH), .int .i64 (x35.fD), .int .i64 (x35.fGram), .int .i64 (x35.fClass), .int .i64 (x35.fCount)]) Tryz.sizeOf120 hM 0 hb23 0 hK rfl rfl rfl rfl rfl rfl rfl rfl rfl rfl rfl fun w37 a hK hE hM hb38 => ?_
    have hS := hS.trans hE (fun y hy => Or.inl hy)
    refine wpList_nil ⟨hS, ?_⟩
    refine d_pure hK 9 rfl (by kernel_rfl) (by kernel_rfl) (by kernel_rfl) rfl rfl rfl hS (fun _ _ _ h => h) rfl fun a hK => ?_
    refine d_done (by kernel_rfl) ?_
    refine (nm_then ?_)
    refine wp_ret ?_
    have h := Option.some.inj h
    subst h
    exact finR2 hK rfl (RV.cA hK rfl ta120 (hb38.at (hM.a 0 rfl) 0 7 rfl rfl rfl) rfl) (RV.tmp hK rfl) ⟨rfl, hM.ext⟩

theorem c_spec_Volume (fu : Nat) {w0 : World} (wv1 : Int) (h2 : Int) (d3 : Int)  {r : Int}
    (h : d_spec_Volume fu wv1 h2 d3 = some r) :
    Calls Tryz.prog 70 #[.int .i64 (wv1), .int .i64 (h2), .int .i64 (d3)] w0 fun e w => e = .returned (.int .i64 (r)) ∧ Ext [] w0 w := by
  refine enter (vs := [_, _, _]) Tryz.func70 rfl Tryz.ntmps70 rfl fun a hK => ?_
  have hM := St.start w0
  unfold d_spec_Volume at h
  refine wp_seq ?_
  refine wp_region_lit ?_
  refine s1 hK rfl rfl rfl rfl fun a hK => ?_
  refine wpList_nil (nm_then ?_)
  refine c_cut (fun a w => K 25 [(0, .int .i64 (wv1)), (1, .int .i64 (h2)), (2, .int .i64 (d3))] a ∧ St [] w0 w [] ∧ d_spec_Volume_J1 fu wv1 h2 d3 = some r) ?_ ?_
  · rintro a w19 ⟨hK, hM, h⟩
    unfold d_spec_Volume_J1 at h
    refine wp_seq ?_
    refine wp_region_lit ?_
    iterate 6 (refine s1 hK rfl rfl rfl rfl fun a hK => ?_)
    refine wpList_nil (nm_then ?_)
    refine wp_ret ?_
    have h := Option.some.inj h
    subst h
    exact finR1 hK rfl (RV.tmp hK rfl) ⟨rfl, hM.ext⟩
  · refine wp_seq ?_
    refine wp_region_lit ?_
    refine s1 hK rfl rfl rfl rfl fun a hK => ?_
    obtain ⟨x20, hx21, h⟩ := obind_some h
    refine s_call hK Tryz.call136 rfl rfl rfl rfl rfl (c_spec_l1In fu _ _ _  hx21) fun e22 w23 hR => ?_
    obtain ⟨rfl, hE⟩ := hR
    refine ⟨_, rfl, fun a hK => ?_⟩
    have hM := hM.step hE
    iterate 2 (refine s1 hK rfl rfl rfl rfl fun a hK => ?_)
    refine bsplit (!x20) (fun hb24 => ?_) (fun hb24 => ?_)
    · have h := bif_t hb24 h
      have hK := hK.re (d := 10) rfl (congrArg Value.bool hb24)
      refine sk hK rfl rfl rfl fun a hK => ?_
      refine sk hK rfl rfl rfl fun a hK => ?_
      refine sk hK rfl rfl rfl fun a hK => ?_
      iterate 2 (refine s1 hK rfl rfl rfl rfl fun a hK => ?_)
      refine sk hK rfl rfl rfl fun a hK => ?_
      refine sk hK rfl rfl rfl fun a hK => ?_
      refine sk hK rfl rfl rfl fun a hK => ?_
      refine s1 hK rfl rfl rfl rfl fun a hK => ?_
      refine wpList_nil (nm_then ?_)
      refine wp_cond_true (hK.ev rfl) ?_
      refine wp_seq ?_
      refine wp_region_lit ?_
      refine s1 hK rfl rfl rfl rfl fun a hK => ?_
      refine wpList_nil (nm_then ?_)
      refine wp_ret (rt_then ?_)
      have h := Option.some.inj h
      subst h
      exact finR1 hK rfl (RV.tmp hK rfl) ⟨rfl, hM.ext⟩
    · have h := bif_f hb24 h
      have hK := hK.re (d := 10) rfl (congrArg Value.bool hb24)
      refine s1 hK rfl rfl rfl rfl fun a hK => ?_
      obtain ⟨x25, hx26, h⟩ := obind_some h
      refine s_call hK Tryz.call136 rfl rfl rfl rfl rfl (c_spec_l1In fu _ _ _  hx26) fun e27 w28 hR => ?_
      obtain ⟨rfl, hE⟩ := hR
      refine ⟨_, rfl, fun a hK => ?_⟩
      have hM := hM.step hE
      iterate 3 (refine s1 hK rfl rfl rfl rfl fun a hK => ?_)
      refine bsplit (!x25) (fun hb29 => ?_) (fun hb29 => ?_)
      · have h := bif_t hb29 h
        have hK := hK.re (d := 15) rfl (congrArg Value.bool hb29)
        refine sk hK rfl rfl rfl fun a hK => ?_
        refine sk hK rfl rfl rfl fun a hK => ?_
        refine sk hK rfl rfl rfl fun a hK => ?_
        refine s1 hK rfl rfl rfl rfl fun a hK => ?_
        refine wpList_nil (nm_then ?_)
        refine wp_cond_true (hK.ev rfl) ?_
        refine wp_seq ?_
        refine wp_region_lit ?_
        refine s1 hK rfl rfl rfl rfl fun a hK => ?_
        refine wpList_nil (nm_then ?_)
        refine wp_ret (rt_then ?_)
        have h := Option.some.inj h
        subst h
        exact finR1 hK rfl (RV.tmp hK rfl) ⟨rfl, hM.ext⟩
      · have h := bif_f hb29 h
        have hK := hK.re (d := 15) rfl (congrArg Value.bool hb29)
        refine s1 hK rfl rfl rfl rfl fun a hK => ?_
        obtain ⟨x30, hx31, h⟩ := obind_some h
        refine s_call hK Tryz.call136 rfl rfl rfl rfl rfl (c_spec_l1In fu _ _ _  hx31) fun e32 w33 hR => ?_
        obtain ⟨rfl, hE⟩ := hR
        refine ⟨_, rfl, fun a hK => ?_⟩
        have hM := hM.step hE
        iterate 2 (refine s1 hK rfl rfl rfl rfl fun a hK => ?_)
        refine wpList_nil (nm_then ?_)
        refine c_cond (b := !x30) hK rfl (fun hb34 => ?_) (fun hb34 => ?_)
        · have h := bif_t hb34 h
          refine wp_seq ?_
          refine wp_region_lit ?_
          refine s1 hK rfl rfl rfl rfl fun a hK => ?_
          refine wpList_nil (nm_then ?_)
          refine wp_ret (rt_then ?_)
          have h := Option.some.inj h
          subst h
          exact finR1 hK rfl (RV.tmp hK rfl) ⟨rfl, hM.ext⟩
        · have h := bif_f hb34 h
          refine wp_skip (nm_then ?_)
          exact ⟨hK.keep [0, 1, 2] rfl, hM.sel [] rfl (by decide), h⟩

theorem c_spec_VolumeOf (fu : Nat) {w0 : World} (r1 : Request) (units5 : List Int) {cs2 : List Value} {F3 : List Nat} (hp4 : rd w0 F3 cs2 r1) {v6 : Value} {F7 : List Nat} (hp8 : rd w0 F7 [v6] units5) {r : Int}
    (h : d_spec_VolumeOf fu r1 units5 = some r) :
    Calls Tryz.prog 69 #[.agg cs2.toArray, v6] w0 fun e w => e = .returned (.int .i64 (r)) ∧ Ext [] w0 w := by
  refine enter (vs := [_, _]) Tryz.func69 rfl Tryz.ntmps69 rfl fun a hK => ?_
  have hM := St.start w0
  obtain ⟨v9, F10, v11, F12, v13, F14, rfl, rfl, hf15, hf16, hf17⟩ := hp4
  unfold d_spec_VolumeOf at h
  refine wp_seq ?_
  refine wp_region_lit ?_
  refine s_box (cs := [.int .i64 (r1.fWay), .int .i64 (r1.fPallet.fW), .int .i64 (r1.fPallet.fD), .int .i64 (r1.fPallet.fH), .int .i64 (r1.fPallet.fGram), .int .i64 (r1.fClasses), v9, v11, .int .i64 (r1.fMaster), v13]) hM hK rfl rfl rfl rfl rfl rfl fun b18 w20 a hK hM hE hb19 => ?_
  refine s1 hK rfl rfl rfl rfl fun a hK => ?_
  refine wpList_nil (nm_then ?_)
  refine wp_seq ?_
  refine wp_region_lit ?_
  refine s_val hK rfl rfl rfl (r_ldB ta40 hM 0 hb19 0 hK rfl rfl rfl rfl rfl rfl) fun a hK => ?_
  obtain ⟨x21, hx22, h⟩ := obind_some h
  refine s_call hK Tryz.call83 rfl rfl rfl rfl rfl (c_spec_Units fu _ (show rd _ _ [.int .i64 (r1.fWay), .int .i64 (r1.fPallet.fW), .int .i64 (r1.fPallet.fD), .int .i64 (r1.fPallet.fH), .int .i64 (r1.fPallet.fGram), .int .i64 (r1.fClasses), v9, v11, .int .i64 (r1.fMaster), v13] (r1 : Request) from ⟨_, _, _, _, _, _, rfl, rfl, (Enc.rd_agr hf15 (hM.a00 (Enc.rd_lt hf15))), (Enc.rd_agr hf16 (hM.a00 (Enc.rd_lt hf16))), (Enc.rd_agr hf17 (hM.a00 (Enc.rd_lt hf17)))⟩) hx22) fun e23 w24 hR => ?_
  obtain ⟨v29, F25, rfl, hE, hf26, hfr27⟩ := hR
  refine ⟨_, rfl, fun a hK => ?_⟩
  have hM := hM.new hE F25 (fun b hb => ⟨hfr27 b hb, Enc.rd_lt (Enc.ow_rd hf26) b hb⟩) (Enc.ow_nd hf26)
  refine s1 hK rfl rfl rfl rfl fun a hK => ?_
  refine wpList_nil (nm_then ?_)
  refine wp_seq ?_
  refine wp_region_lit ?_
  refine s1 hK rfl rfl rfl rfl fun a hK => ?_
  refine wpList_nil (nm_then ?_)
  refine wp_seq ?_
  refine wp_seq ?_
  refine wp_region_lit ?_
  refine s1 hK rfl rfl rfl rfl fun a hK => ?_
  refine wpList_nil (nm_then ?_)
  refine wp_block ?_
  refine c_loop (fun n a w => ∃ (n277 : Int) (i278 : Int), K 38 [(1, v6), (2, .pointer (some (⟨b18, 0, none⟩ : Addr))), (5, v29), (6, .int .i64 (n277)), (7, .int .i64 (i278))] a ∧ St [] w0 w [([b18], w20), (F25, w24)] ∧ d_spec_VolumeOf_L1 fu r1 units5 x21 n n277 i278 = some r) ?_ ?_ fu _ _ ?_
  · rintro a w ⟨_, _, _, _, h⟩
    cases (show none = some _ from h)
  · rintro m279 a w276 ⟨n277, i278, hK, hM, h⟩
    rw [d_spec_VolumeOf_L1_s] at h
    unfold d_spec_VolumeOf_L1_B at h
    refine wp_seq ?_
    refine wp_seq ?_
    refine wp_region_lit ?_
    iterate 2 (refine s1 hK rfl rfl rfl rfl fun a hK => ?_)
    refine s_val hK rfl rfl rfl (r_len (α := Int) hp8 hK Tryz.underlying29 rfl rfl) fun a hK => ?_
    refine s1 hK rfl rfl rfl rfl fun a hK => ?_
    refine wpList_nil (nm_then ?_)
    refine c_cond (b := decide (i278 < ((units5.length : Int)))) hK rfl (fun hb280 => ?_) (fun hb280 => ?_)
    · have h := bif_t hb280 h
      refine wp_skip (nm_then ?_)
      refine c_cut (fun a w => ∃ (n341 : Int), K 38 [(1, v6), (2, .pointer (some (⟨b18, 0, none⟩ : Addr))), (5, v29), (6, .int .i64 (n341)), (7, .int .i64 (i278))] a ∧ St [] w0 w [([b18], w20), (F25, w24)] ∧ d_spec_VolumeOf_J1 fu (d_spec_VolumeOf_L1 fu r1 units5 x21 m279) i278 n341 = some r) ?_ ?_
      · rintro a w340 ⟨n341, hK, hM, h⟩
        unfold d_spec_VolumeOf_J1 at h
        refine wp_region_lit ?_
        iterate 3 (refine s1 hK rfl rfl rfl rfl fun a hK => ?_)
        refine wpList_nil (nm_then ?_)
        exact ⟨n341, w64 (i278 + 1), hK.keep [1, 2, 5, 6, 7] rfl, hM.sel [0, 1] rfl (by decide), h⟩
      · refine wp_block ?_
        refine c_cut (fun a w => ∃ (i371 : Item) (b368 : Nat) (u369 : World), K 38 [(1, v6), (2, .pointer (some (⟨b18, 0, none⟩ : Addr))), (5, v29), (6, .int .i64 (n277)), (7, .int .i64 (i278)), (8, .pointer (some (⟨b368, 0, none⟩ : Addr)))] a ∧ St [] w0 w [([b18], w20), (F25, w24), ([b368], u369)] ∧ bx u369 b368 [.int .i64 (i371.fId), .int .i64 (i371.fW), .int .i64 (i371.fH), .int .i64 (i371.fD), .int .i64 (i371.fGram), .int .i64 (i371.fClass), .int .i64 (i371.fCount)] 120 ∧ d_spec_VolumeOf_J2 fu (d_spec_VolumeOf_L1 fu r1 units5 x21 m279) n277 i278 i371 = some r) ?_ ?_
        · rintro a w367 ⟨i371, b368, u369, hK, hM, hb370, h⟩
          unfold d_spec_VolumeOf_J2 at h
          refine wp_region_lit ?_
          refine s1 hK rfl rfl rfl rfl fun a hK => ?_
          refine s_val hK rfl rfl rfl (r_fa fa120_1 hK rfl rfl) fun a hK => ?_
          refine s_val hK rfl rfl rfl (r_ldb t13 hM 2 hb370 1 hK rfl rfl rfl rfl rfl) fun a hK => ?_
          refine s_val hK rfl rfl rfl (r_fa fa120_2 hK rfl rfl) fun a hK => ?_
          refine s_val hK rfl rfl rfl (r_ldb t13 hM 2 hb370 2 hK rfl rfl rfl rfl rfl) fun a hK => ?_
          refine s_val hK rfl rfl rfl (r_fa fa120_3 hK rfl rfl) fun a hK => ?_
          refine s_val hK rfl rfl rfl (r_ldb t13 hM 2 hb370 3 hK rfl rfl rfl rfl rfl) fun a hK => ?_
          obtain ⟨x372, hx373, h⟩ := obind_some h
          refine s_call hK Tryz.call70 rfl rfl rfl rfl rfl (c_spec_Volume fu _ _ _  hx373) fun e374 w375 hR => ?_
          obtain ⟨rfl, hE⟩ := hR
          refine ⟨_, rfl, fun a hK => ?_⟩
          have hM := hM.step hE
          iterate 2 (refine s1 hK rfl rfl rfl rfl fun a hK => ?_)
          refine wpList_nil (nm_block (nm_then ?_))
          exact ⟨w64 (n277 + x372), hK.keep [1, 2, 5, 6, 7] rfl, hM.sel [0, 1] rfl (by decide), h⟩
        · refine d_go [] mixo hM rfl fun w376 hMd => ?_
          have hM := hMd
          have hS := Ext.refl ([] : List Nat) w376
          refine d_take hK 0 rfl (by kernel_rfl) (by kernel_rfl) (by kernel_rfl) rfl rfl rfl hS (fun _ _ _ h => h) (fun w hS => r_ldA ta40 (hb19.at ((hMd.step hS).a 0 rfl) 0 10 rfl rfl rfl) rfl hK rfl rfl) fun a hK => ?_
          refine d_pure hK 1 rfl (by kernel_rfl) (by kernel_rfl) (by kernel_rfl) rfl rfl rfl hS (fun _ _ _ h => h) rfl fun a hK => ?_
          refine d_pure hK 2 rfl (by kernel_rfl) (by kernel_rfl) (by kernel_rfl) rfl rfl rfl hS (fun _ _ _ h => h) rfl fun a hK => ?_
          refine d_pure hK 3 rfl (by kernel_rfl) (by kernel_rfl) (by kernel_rfl) rfl rfl rfl hS (fun _ _ _ h => h) rfl fun a hK => ?_
          obtain ⟨x377, hx378, h⟩ := obind_some h
          refine d_take hK 4 rfl (by kernel_rfl) (by kernel_rfl) (by kernel_rfl) rfl rfl rfl hS (fun _ _ _ h => h) (fun w hS => r_ixa hp8 hx378 hK ts29 rfl rfl rfl) fun a hK => ?_
          refine d_take hK 5 rfl (by kernel_rfl) (by kernel_rfl) (by kernel_rfl) rfl rfl rfl hS (fun _ _ _ h => h) (fun w hS => r_lde1 hp8 ((hMd.step hS).a00 (Enc.rd_lt hp8)) hx378 0 t13 hK rfl rfl rfl rfl) fun a hK => ?_
          refine d_two 6 10 (by kernel_rfl) rfl rfl ?_ ?_ 
          · obtain ⟨x379, hx380, h⟩ := obind_some h
            refine s_call hK Tryz.call102 rfl rfl rfl rfl rfl (c_spec_l6Item fu _ _ _ (show rd _ _ [.int .i64 (r1.fWay), .int .i64 (r1.fPallet.fW), .int .i64 (r1.fPallet.fD), .int .i64 (r1.fPallet.fH), .int .i64 (r1.fPallet.fGram), .int .i64 (r1.fClasses), v9, v11, .int .i64 (r1.fMaster), v13] (r1 : Request) from ⟨_, _, _, _, _, _, rfl, rfl, (Enc.rd_agr hf15 (hM.a00 (Enc.rd_lt hf15))), (Enc.rd_agr hf16 (hM.a00 (Enc.rd_lt hf16))), (Enc.rd_agr hf17 (hM.a00 (Enc.rd_lt hf17)))⟩) (Enc.rd_agr (Enc.ow_rd hf26) (hM.a 1 rfl)) hx380) fun e381 w382 hR => ?_
            obtain ⟨rfl, hE⟩ := hR
            refine ⟨_, rfl, fun a hK => ?_⟩
            have hM := hM.step hE
            have hS := hS.trans hE (by simp)
            refine wpList_nil ⟨hS, ?_⟩
            refine d_pure hK 7 rfl (by kernel_rfl) (by kernel_rfl) (by kernel_rfl) rfl rfl rfl hS (fun _ _ _ h => h) rfl fun a hK => ?_
            refine d_pure hK 8 rfl (by kernel_rfl) (by kernel_rfl) (by kernel_rfl) rfl rfl rfl hS (fun _ _ _ h => h) rfl fun a hK => ?_
            refine d_pure hK 9 rfl (by kernel_rfl) (by kernel_rfl) (by kernel_rfl) rfl rfl rfl hS (fun _ _ _ h => h) rfl fun a hK => ?_
            refine d_one 10 (by kernel_rfl) rfl ?_
            refine s_allocN (cs := [.int .i64 (0), .int .i64 (0), .int .i64 (0), .int .i64 (0), .int .i64 (0), .int .i64 (0), .int .i64 (0)]) hM hK Tryz.zeroValue120 rfl rfl rfl rfl rfl fun b383 w385 a hK hM hE hb384 hbn386 => ?_
            have hlo387 := lo1 (Nat.le_trans hS.size hbn386)
            have hS := hS.trans hE (by simp)
            refine wpList_nil ⟨hS, ?_⟩
            refine d_one 11 (by kernel_rfl) rfl ?_
            refine s_stb (cs' := [.int .i64 (x379.1.fId), .int .i64 (x379.1.fW), .int .i64 (x379.1.fH), .int .i64 (x379.1.fD), .int .i64 (x379.1.fGram), .int .i64 (x379.1.fClass), .int .i64 (x379.1.fCount)]) Tryz.sizeOf120 hM 0 hb384 0 hK rfl rfl rfl rfl rfl rfl rfl rfl rfl rfl rfl fun w388 a hK hE hM hb389 => ?_
            have hS := hS.trans hE (fun y hy => Or.inr (hlo387 y hy))
            refine wpList_nil ⟨hS, ?_⟩
            refine d_pure hK 12 rfl (by kernel_rfl) (by kernel_rfl) (by kernel_rfl) rfl rfl rfl hS (fun _ _ _ h => h) rfl fun a hK => ?_
            refine d_done (by kernel_rfl) ?_
            refine (nm_then ?_)
            exact ⟨x379.1, b383, w388, hK.keep [1, 2, 5, 6, 7, 8] rfl, hM.sel [1, 2, 0] rfl (by decide), hb389, h⟩
          · refine s_allocN (cs := [.int .i64 (0), .int .i64 (0), .int .i64 (0), .int .i64 (0), .int .i64 (0), .int .i64 (0), .int .i64 (0)]) hM hK Tryz.zeroValue120 rfl rfl rfl rfl rfl fun b390 w392 a hK hM hE hb391 hbn393 => ?_
            have hlo394 := lo1 (Nat.le_trans hS.size hbn393)
            have hS := hS.trans hE (by simp)
            refine wpList_nil ⟨hS, ?_⟩
            refine d_one 6 (by kernel_rfl) rfl ?_
            obtain ⟨x395, hx396, h⟩ := obind_some h
            refine s_call hK Tryz.call102 rfl rfl rfl rfl rfl (c_spec_l6Item fu _ _ _ (show rd _ _ [.int .i64 (r1.fWay), .int .i64 (r1.fPallet.fW), .int .i64 (r1.fPallet.fD), .int .i64 (r1.fPallet.fH), .int .i64 (r1.fPallet.fGram), .int .i64 (r1.fClasses), v9, v11, .int .i64 (r1.fMaster), v13] (r1 : Request) from ⟨_, _, _, _, _, _, rfl, rfl, (Enc.rd_agr hf15 (hM.a00 (Enc.rd_lt hf15))), (Enc.rd_agr hf16 (hM.a00 (Enc.rd_lt hf16))), (Enc.rd_agr hf17 (hM.a00 (Enc.rd_lt hf17)))⟩) (Enc.rd_agr (Enc.ow_rd hf26) (hM.a 2 rfl)) hx396) fun e397 w398 hR => ?_
            obtain ⟨rfl, hE⟩ := hR
            refine ⟨_, rfl, fun a hK => ?_⟩
            have hM := hM.step hE
            have hS := hS.trans hE (by simp)
            refine wpList_nil ⟨hS, ?_⟩
            refine d_pure hK 7 rfl (by kernel_rfl) (by kernel_rfl) (by kernel_rfl) rfl rfl rfl hS (fun _ _ _ h => h) rfl fun a hK => ?_
            refine d_pure hK 8 rfl (by kernel_rfl) (by kernel_rfl) (by kernel_rfl) rfl rfl rfl hS (fun _ _ _ h => h) rfl fun a hK => ?_
            refine d_pure hK 9 rfl (by kernel_rfl) (by kernel_rfl) (by kernel_rfl) rfl rfl rfl hS (fun _ _ _ h => h) rfl fun a hK => ?_
            refine d_one 11 (by kernel_rfl) rfl ?_
            refine s_stb (cs' := [.int .i64 (x395.1.fId), .int .i64 (x395.1.fW), .int .i64 (x395.1.fH), .int .i64 (x395.1.fD), .int .i64 (x395.1.fGram), .int .i64 (x395.1.fClass), .int .i64 (x395.1.fCount)]) Tryz.sizeOf120 hM 0 hb391 0 hK rfl rfl rfl rfl rfl rfl rfl rfl rfl rfl rfl fun w399 a hK hE hM hb400 => ?_
            have hS := hS.trans hE (fun y hy => Or.inr (hlo394 y hy))
            refine wpList_nil ⟨hS, ?_⟩
            refine d_pure hK 12 rfl (by kernel_rfl) (by kernel_rfl) (by kernel_rfl) rfl rfl rfl hS (fun _ _ _ h => h) rfl fun a hK => ?_
            refine d_done (by kernel_rfl) ?_
            refine (nm_then ?_)
            exact ⟨x395.1, b390, w399, hK.keep [1, 2, 5, 6, 7, 8] rfl, hM.sel [1, 2, 0] rfl (by decide), hb400, h⟩
    · have h := bif_f hb280 h
      refine wp_exit (ex_then (ex_then (ex_same (nm_then ?_))))
      refine wp_seq ?_
      refine wp_region_lit ?_
      iterate 2 (refine s1 hK rfl rfl rfl rfl fun a hK => ?_)
      refine wpList_nil (nm_then ?_)
      refine wp_ret ?_
      have h := Option.some.inj h
      subst h
      exact finR1 hK rfl (RV.tmp hK rfl) ⟨rfl, hM.ext⟩
  · exact ⟨0, 0, hK.keep [1, 2, 5, 6, 7] rfl, hM.sel [1, 0] rfl (by decide), h⟩

theorem c_spec_Fill (fu : Nat) {w0 : World} (r1 : Request) (x5 : Carton) {cs2 : List Value} {F3 : List Nat} (hp4 : rd w0 F3 cs2 r1) {cs6 : List Value} {F7 : List Nat} (hp8 : rd w0 F7 cs6 x5) {r : Int}
    (h : d_spec_Fill fu r1 x5 = some r) :
    Calls Tryz.prog 17 #[.agg cs2.toArray, .agg cs6.toArray] w0 fun e w => e = .returned (.int .i64 (r)) ∧ Ext [] w0 w := by
  refine enter (vs := [_, _]) Tryz.func17 rfl Tryz.ntmps17 rfl fun a hK => ?_
  have hM := St.start w0
  obtain ⟨v9, F10, v11, F12, v13, F14, rfl, rfl, hf15, hf16, hf17⟩ := hp4
  obtain ⟨v18, _, rfl, rfl, hf19⟩ := hp8
  unfold d_spec_Fill at h
  refine wp_seq ?_
  refine wp_region_lit ?_
  refine s_box (cs := [.int .i64 (r1.fWay), .int .i64 (r1.fPallet.fW), .int .i64 (r1.fPallet.fD), .int .i64 (r1.fPallet.fH), .int .i64 (r1.fPallet.fGram), .int .i64 (r1.fClasses), v9, v11, .int .i64 (r1.fMaster), v13]) hM hK rfl rfl rfl rfl rfl rfl fun b20 w22 a hK hM hE hb21 => ?_
  refine s_box (cs := [.int .i64 (x5.fType), .int .i64 (x5.fGroup), v18]) hM hK rfl rfl rfl rfl rfl rfl fun b23 w25 a hK hM hE hb24 => ?_
  refine s1 hK rfl rfl rfl rfl fun a hK => ?_
  refine wpList_nil (nm_then ?_)
  refine wp_seq ?_
  refine wp_region_lit ?_
  refine s_val hK rfl rfl rfl (r_ldB ta40 hM 1 hb21 0 hK rfl rfl rfl rfl rfl rfl) fun a hK => ?_
  refine s_val hK rfl rfl rfl (r_fa fa42_0 hK rfl rfl) fun a hK => ?_
  refine s_val hK rfl rfl rfl (r_ldb t13 hM 0 hb24 0 hK rfl rfl rfl rfl rfl) fun a hK => ?_
  obtain ⟨x26, hx27, h⟩ := obind_some h
  refine s_call hK Tryz.call67 rfl rfl rfl rfl rfl (c_spec_TypeById fu _ _ (show rd _ _ [.int .i64 (r1.fWay), .int .i64 (r1.fPallet.fW), .int .i64 (r1.fPallet.fD), .int .i64 (r1.fPallet.fH), .int .i64 (r1.fPallet.fGram), .int .i64 (r1.fClasses), v9, v11, .int .i64 (r1.fMaster), v13] (r1 : Request) from ⟨_, _, _, _, _, _, rfl, rfl, (Enc.rd_agr hf15 (hM.a00 (Enc.rd_lt hf15))), (Enc.rd_agr hf16 (hM.a00 (Enc.rd_lt hf16))), (Enc.rd_agr hf17 (hM.a00 (Enc.rd_lt hf17)))⟩) hx27) fun e28 w29 hR => ?_
  obtain ⟨rfl, hE⟩ := hR
  refine ⟨_, rfl, fun a hK => ?_⟩
  have hM := hM.step hE
  iterate 3 (refine s1 hK rfl rfl rfl rfl fun a hK => ?_)
  refine s_alloc (cs := [.int .i64 (0), .int .i64 (0), .int .i64 (0), .int .i64 (0), .int .i64 (0), .int .i64 (0), .int .i64 (0)]) hM hK Tryz.zeroValue92 rfl rfl rfl rfl rfl fun b30 w32 a hK hM hE hb31 => ?_
  refine s_stb (cs' := [.int .i64 (x26.1.fId), .int .i64 (x26.1.fW), .int .i64 (x26.1.fH), .int .i64 (x26.1.fD), .int .i64 (x26.1.fTare), .int .i64 (x26.1.fGram), .int .i64 (x26.1.fCost)]) Tryz.sizeOf92 hM 0 hb31 0 hK rfl rfl rfl rfl rfl rfl rfl rfl rfl rfl rfl fun w33 a hK hE hM hb34 => ?_
  refine s1 hK rfl rfl rfl rfl fun a hK => ?_
  refine wpList_nil (nm_then ?_)
  refine c_cut (fun a w => K 34 [(2, .pointer (some (⟨b20, 0, none⟩ : Addr))), (3, .pointer (some (⟨b23, 0, none⟩ : Addr))), (5, .pointer (some (⟨b30, 0, none⟩ : Addr)))] a ∧ St [] w0 w [([b20], w22), ([b23], w25), ([b30], w33)] ∧ d_spec_Fill_J1 fu r1 x5 x26 = some r) ?_ ?_
  · rintro a w41 ⟨hK, hM, h⟩
    unfold d_spec_Fill_J1 at h
    refine wp_seq ?_
    refine d_go [] mixo hM rfl fun w42 hMd => ?_
    have hM := hMd
    have hS := Ext.refl ([] : List Nat) w42
    refine d_take hK 0 rfl (by kernel_rfl) (by kernel_rfl) (by kernel_rfl) rfl rfl rfl hS (fun _ _ _ h => h) (fun w hS => r_ldA ta40 (hb21.at ((hMd.step hS).a 0 rfl) 0 10 rfl rfl rfl) rfl hK rfl rfl) fun a hK => ?_
    refine d_take hK 1 rfl (by kernel_rfl) (by kernel_rfl) (by kernel_rfl) rfl rfl rfl hS (fun _ _ _ h => h) (fun w hS => r_fa fa42_2 hK rfl rfl) fun a hK => ?_
    refine d_take hK 2 rfl (by kernel_rfl) (by kernel_rfl) (by kernel_rfl) rfl rfl rfl hS (fun _ _ _ h => h) (fun w hS => r_ld1 t129 (r := []) (hb24.at ((hMd.step hS).a 1 rfl) 2 1 rfl rfl rfl) hK rfl rfl) fun a hK => ?_
    refine d_take hK 5 rfl (by kernel_rfl) (by kernel_rfl) (by kernel_rfl) rfl rfl rfl hS (fun _ _ _ h => h) (fun w hS => r_fa fa92_1 hK rfl rfl) fun a hK => ?_
    refine d_take hK 6 rfl (by kernel_rfl) (by kernel_rfl) (by kernel_rfl) rfl rfl rfl hS (fun _ _ _ h => h) (fun w hS => r_ld1 t13 (r := []) (hb34.at ((hMd.step hS).a 2 rfl) 1 1 rfl rfl rfl) hK rfl rfl) fun a hK => ?_
    refine d_take hK 7 rfl (by kernel_rfl) (by kernel_rfl) (by kernel_rfl) rfl rfl rfl hS (fun _ _ _ h => h) (fun w hS => r_fa fa92_2 hK rfl rfl) fun a hK => ?_
    refine d_take hK 8 rfl (by kernel_rfl) (by kernel_rfl) (by kernel_rfl) rfl rfl rfl hS (fun _ _ _ h => h) (fun w hS => r_ld1 t13 (r := []) (hb34.at ((hMd.step hS).a 2 rfl) 2 1 rfl rfl rfl) hK rfl rfl) fun a hK => ?_
    refine d_take hK 9 rfl (by kernel_rfl) (by kernel_rfl) (by kernel_rfl) rfl rfl rfl hS (fun _ _ _ h => h) (fun w hS => r_fa fa92_3 hK rfl rfl) fun a hK => ?_
    refine d_take hK 10 rfl (by kernel_rfl) (by kernel_rfl) (by kernel_rfl) rfl rfl rfl hS (fun _ _ _ h => h) (fun w hS => r_ld1 t13 (r := []) (hb34.at ((hMd.step hS).a 2 rfl) 3 1 rfl rfl rfl) hK rfl rfl) fun a hK => ?_
    refine d_one 3 (by kernel_rfl) rfl ?_
    obtain ⟨x43, hx44, h⟩ := obind_some h
    refine s_call hK Tryz.call69 rfl rfl rfl rfl rfl (c_spec_VolumeOf fu _ _ (show rd _ _ [.int .i64 (r1.fWay), .int .i64 (r1.fPallet.fW), .int .i64 (r1.fPallet.fD), .int .i64 (r1.fPallet.fH), .int .i64 (r1.fPallet.fGram), .int .i64 (r1.fClasses), v9, v11, .int .i64 (r1.fMaster), v13] (r1 : Request) from ⟨_, _, _, _, _, _, rfl, rfl, (Enc.rd_agr hf15 (hM.a00 (Enc.rd_lt hf15))), (Enc.rd_agr hf16 (hM.a00 (Enc.rd_lt hf16))), (Enc.rd_agr hf17 (hM.a00 (Enc.rd_lt hf17)))⟩) (Enc.rd_agr hf19 (hM.a00 (Enc.rd_lt hf19))) hx44) fun e45 w46 hR => ?_
    obtain ⟨rfl, hE⟩ := hR
    refine ⟨_, rfl, fun a hK => ?_⟩
    have hM := hM.step hE
    have hS := hS.trans hE (by simp)
    refine wpList_nil ⟨hS, ?_⟩
    refine d_pure hK 4 rfl (by kernel_rfl) (by kernel_rfl) (by kernel_rfl) rfl rfl rfl hS (fun _ _ _ h => h) rfl fun a hK => ?_
    refine d_one 11 (by kernel_rfl) rfl ?_
    obtain ⟨x47, hx48, h⟩ := obind_some h
    refine s_call hK Tryz.call70 rfl rfl rfl rfl rfl (c_spec_Volume fu _ _ _  hx48) fun e49 w50 hR => ?_
    obtain ⟨rfl, hE⟩ := hR
    refine ⟨_, rfl, fun a hK => ?_⟩
    have hM := hM.step hE
    have hS := hS.trans hE (by simp)
    refine wpList_nil ⟨hS, ?_⟩
    obtain ⟨u51, hx52, h⟩ := obind_some h
    refine d_take hK 12 rfl (by kernel_rfl) (by kernel_rfl) (by kernel_rfl) rfl rfl rfl hS (fun _ _ _ h => h) (fun w hS => r_quo (odiv_some hx52) hK rfl rfl rfl) fun a hK => ?_
    refine d_pure hK 13 rfl (by kernel_rfl) (by kernel_rfl) (by kernel_rfl) rfl rfl rfl hS (fun _ _ _ h => h) rfl fun a hK => ?_
    refine d_done (by kernel_rfl) ?_
    refine (nm_then ?_)
    refine wp_ret ?_
    have h := Option.some.inj h
    subst h
    exact finR1 hK rfl (RV.tmp hK rfl) ⟨rfl, hM.ext⟩
  · refine wp_seq ?_
    refine wp_region_lit ?_
    refine s_val hK rfl rfl rfl (r_ldB ta40 hM 2 hb21 0 hK rfl rfl rfl rfl rfl rfl) fun a hK => ?_
    obtain ⟨x53, hx54, h⟩ := obind_some h
    refine s_call hK Tryz.call68 rfl rfl rfl rfl rfl (c_spec_Class fu _ (show rd _ _ [.int .i64 (r1.fWay), .int .i64 (r1.fPallet.fW), .int .i64 (r1.fPallet.fD), .int .i64 (r1.fPallet.fH), .int .i64 (r1.fPallet.fGram), .int .i64 (r1.fClasses), v9, v11, .int .i64 (r1.fMaster), v13] (r1 : Request) from ⟨_, _, _, _, _, _, rfl, rfl, (Enc.rd_agr hf15 (hM.a00 (Enc.rd_lt hf15))), (Enc.rd_agr hf16 (hM.a00 (Enc.rd_lt hf16))), (Enc.rd_agr hf17 (hM.a00 (Enc.rd_lt hf17)))⟩) hx54) fun e55 w56 hR => ?_
    obtain ⟨rfl, hE⟩ := hR
    refine ⟨_, rfl, fun a hK => ?_⟩
    have hM := hM.step hE
    iterate 2 (refine s1 hK rfl rfl rfl rfl fun a hK => ?_)
    refine bsplit (x53 != 0) (fun hb57 => ?_) (fun hb57 => ?_)
    · have h := bif_t hb57 h
      have hK := hK.re (d := 17) rfl (congrArg Value.bool hb57)
      refine sk hK rfl rfl rfl fun a hK => ?_
      refine sk hK rfl rfl rfl fun a hK => ?_
      refine s1 hK rfl rfl rfl rfl fun a hK => ?_
      refine wpList_nil (nm_then ?_)
      refine wp_cond_true (hK.ev rfl) ?_
      refine wp_seq ?_
      refine wp_region_lit ?_
      refine s1 hK rfl rfl rfl rfl fun a hK => ?_
      refine wpList_nil (nm_then ?_)
      refine wp_ret (rt_then ?_)
      have h := Option.some.inj h
      subst h
      exact finR1 hK rfl (RV.tmp hK rfl) ⟨rfl, hM.ext⟩
    · have h := bif_f hb57 h
      have hK := hK.re (d := 17) rfl (congrArg Value.bool hb57)
      iterate 3 (refine s1 hK rfl rfl rfl rfl fun a hK => ?_)
      refine wpList_nil (nm_then ?_)
      refine c_cond (b := !x26.2) hK rfl (fun hb58 => ?_) (fun hb58 => ?_)
      · have h := bif_t hb58 h
        refine wp_seq ?_
        refine wp_region_lit ?_
        refine s1 hK rfl rfl rfl rfl fun a hK => ?_
        refine wpList_nil (nm_then ?_)
        refine wp_ret (rt_then ?_)
        have h := Option.some.inj h
        subst h
        exact finR1 hK rfl (RV.tmp hK rfl) ⟨rfl, hM.ext⟩
      · have h := bif_f hb58 h
        refine wp_skip (nm_then ?_)
        exact ⟨hK.keep [2, 3, 5] rfl, hM.sel [2, 1, 0] rfl (by decide), h⟩

theorem c_spec_Fills (fu : Nat) {w0 : World} (r1 : Request) (list5 : List Carton) {cs2 : List Value} {F3 : List Nat} (hp4 : rd w0 F3 cs2 r1) {v6 : Value} {F7 : List Nat} (hp8 : rd w0 F7 [v6] list5) {r : (List Int)}
    (h : d_spec_Fills fu r1 list5 = some r) :
    Calls Tryz.prog 40 #[.agg cs2.toArray, v6] w0 fun e w => ∃ (v0 : Value) (G0 : List Nat), e = .returned (v0) ∧ Ext [] w0 w ∧ ow w G0 [v0] r ∧ (∀ b ∈ G0, w0.heap.size ≤ b) := by
  refine enter (vs := [_, _]) Tryz.func40 rfl Tryz.ntmps40 rfl fun a hK => ?_
  have hM := St.start w0
  obtain ⟨v9, F10, v11, F12, v13, F14, rfl, rfl, hf15, hf16, hf17⟩ := hp4
  unfold d_spec_Fills at h
  refine wp_seq ?_
  refine wp_region_lit ?_
  refine s_box (cs := [.int .i64 (r1.fWay), .int .i64 (r1.fPallet.fW), .int .i64 (r1.fPallet.fD), .int .i64 (r1.fPallet.fH), .int .i64 (r1.fPallet.fGram), .int .i64 (r1.fClasses), v9, v11, .int .i64 (r1.fMaster), v13]) hM hK rfl rfl rfl rfl rfl rfl fun b18 w20 a hK hM hE hb19 => ?_
  refine s1 hK rfl rfl rfl rfl fun a hK => ?_
  refine wpList_nil (nm_then ?_)
  refine wp_seq ?_
  refine wp_region_lit ?_
  refine s_bs (cs := []) (ps := []) te29 hM hK rfl rfl rfl rfl rfl rfl rfl (by decide) rfl (by exact (List.forall_mem_nil _)) fun g21 w22 e24 a hK hM hE hb23 => ?_
  have hf25 := ow_bx hb23 ([] : List Int) rfl rfl rfl
  refine s1 hK rfl rfl rfl rfl fun a hK => ?_
  refine wpList_nil (nm_then ?_)
  refine wp_seq ?_
  refine wp_seq ?_
  refine wp_region_lit ?_
  refine s1 hK rfl rfl rfl rfl fun a hK => ?_
  refine wpList_nil (nm_then ?_)
  refine wp_block ?_
  refine c_loop (fun n a w => ∃ (out97 : List Int) (v98 : Value) (F99 : List Nat) (u100 : World) (i102 : Int), K 24 [(1, v6), (2, .pointer (some (⟨b18, 0, none⟩ : Addr))), (5, v98), (6, .int .i64 (i102))] a ∧ St [] w0 w [([b18], w20), (F99, u100)] ∧ ow u100 F99 [v98] out97 ∧ d_spec_Fills_L1 fu r1 list5 n out97 i102 = some r) ?_ ?_ fu _ _ ?_
  · rintro a w ⟨_, _, _, _, _, _, _, _, h⟩
    cases (show none = some _ from h)
  · rintro m103 a w96 ⟨out97, v98, F99, u100, i102, hK, hM, hf101, h⟩
    rw [d_spec_Fills_L1_s] at h
    unfold d_spec_Fills_L1_B at h
    refine wp_seq ?_
    refine wp_seq ?_
    refine wp_region_lit ?_
    iterate 2 (refine s1 hK rfl rfl rfl rfl fun a hK => ?_)
    refine s_val hK rfl rfl rfl (r_len (α := Carton) hp8 hK Tryz.underlying63 rfl rfl) fun a hK => ?_
    refine s1 hK rfl rfl rfl rfl fun a hK => ?_
    refine wpList_nil (nm_then ?_)
    refine c_cond (b := decide (i102 < ((list5.length : Int)))) hK rfl (fun hb104 => ?_) (fun hb104 => ?_)
    · have h := bif_t hb104 h
      refine wp_skip (nm_then ?_)
      refine wp_seq ?_
      refine wp_block ?_
      refine d_go (F99) mixo hM rfl fun w105 hMd => ?_
      have hM := hMd
      have hS := Ext.refl ((F99) : List Nat) w105
      refine d_pure hK 0 rfl (by kernel_rfl) (by kernel_rfl) (by kernel_rfl) rfl rfl rfl hS (fun _ _ _ h => h) rfl fun a hK => ?_
      refine d_take hK 1 rfl (by kernel_rfl) (by kernel_rfl) (by kernel_rfl) rfl rfl rfl hS (fun _ _ _ h => h) (fun w hS => r_ldA ta40 (hb19.at (hMd.az 0 1 rfl rfl rfl hS) 0 10 rfl rfl rfl) rfl hK rfl rfl) fun a hK => ?_
      refine d_pure hK 2 rfl (by kernel_rfl) (by kernel_rfl) (by kernel_rfl) rfl rfl rfl hS (fun _ _ _ h => h) rfl fun a hK => ?_
      refine d_pure hK 3 rfl (by kernel_rfl) (by kernel_rfl) (by kernel_rfl) rfl rfl rfl hS (fun _ _ _ h => h) rfl fun a hK => ?_
      obtain ⟨x106, hx107, h⟩ := obind_some h
      refine d_take hK 4 rfl (by kernel_rfl) (by kernel_rfl) (by kernel_rfl) rfl rfl rfl hS (fun _ _ _ h => h) (fun w hS => r_ixa hp8 hx107 hK ts63 rfl rfl rfl) fun a hK => ?_
      obtain ⟨G108, cs109, hG110, hr111, hp112, hb113⟩ := rd_get hp8 (ix_some hx107).2.2
      obtain ⟨v114, _, rfl, rfl, hf115⟩ := hr111
      refine d_take hK 5 rfl (by kernel_rfl) (by kernel_rfl) (by kernel_rfl) rfl rfl rfl hS (fun _ _ _ h => h) (fun w hS => r_ldA ta42 (hp112.agr (hMd.az0 1 rfl rfl (Enc.rd_lt hp8) hS) hb113) rfl hK rfl rfl) fun a hK => ?_
      refine d_one 6 (by kernel_rfl) rfl ?_
      obtain ⟨x116, hx117, h⟩ := obind_some h
      refine s_call hK Tryz.call17 rfl rfl rfl rfl rfl (c_spec_Fill fu _ _ (show rd _ _ [.int .i64 (r1.fWay), .int .i64 (r1.fPallet.fW), .int .i64 (r1.fPallet.fD), .int .i64 (r1.fPallet.fH), .int .i64 (r1.fPallet.fGram), .int .i64 (r1.fClasses), v9, v11, .int .i64 (r1.fMaster), v13] (r1 : Request) from ⟨_, _, _, _, _, _, rfl, rfl, (Enc.rd_agr hf15 (hM.a00 (Enc.rd_lt hf15))), (Enc.rd_agr hf16 (hM.a00 (Enc.rd_lt hf16))), (Enc.rd_agr hf17 (hM.a00 (Enc.rd_lt hf17)))⟩) (show rd _ _ [.int .i64 (x106.fType), .int .i64 (x106.fGroup), v114] (x106 : Carton) from ⟨_, _, rfl, rfl, (Enc.rd_agr hf115 (hM.a00 (Enc.rd_lt hf115)))⟩) hx117) fun e118 w119 hR => ?_
      obtain ⟨rfl, hE⟩ := hR
      refine ⟨_, rfl, fun a hK => ?_⟩
      have hM := hM.step hE
      have hS := hS.trans hE (by simp)
      refine wpList_nil ⟨hS, ?_⟩
      refine d_one 7 (by kernel_rfl) rfl ?_
      refine s_bsN (cs := [.int .i64 (x116)]) (ps := [(0, .tmp 20)]) te29 hM hK rfl rfl rfl rfl rfl rfl rfl (by decide) rfl (by exact (List.forall_mem_cons.2 ⟨rfl, (List.forall_mem_nil _)⟩)) fun g120 w121 e123 a hK hM hE hb122 hgn124 => ?_
      have hlo126 := lo1 (Nat.le_trans hS.size hgn124)
      have hf125 := ow_bx hb122 ([x116] : List Int) rfl rfl rfl
      have hS := hS.trans hE (by simp)
      refine wpList_nil ⟨hS, ?_⟩
      refine d_one 8 (by kernel_rfl) rfl ?_
      obtain ⟨x127, hx128, h⟩ := obind_some h
      refine s_appFN hx128 te29 rfl hM 2 hf101 (News.rd (Enc.rd_agr (Enc.ow_rd hf125) (hM.a 0 rfl))) rfl rfl hK rfl rfl rfl rfl rfl rfl rfl fun v129 F130 w131 a hK hE hM hf132 hap133 => ?_
      have hlo134 : ∀ y ∈ F130, y ∈ (F99) ∨ _ ≤ y := fun y hy => (hap133 y hy).elim (fun hy => (fun y hy => Or.inl hy) y hy) (fun h => Or.inr (Nat.le_trans hS.size h))
      have hS := hS.trans hE (fun y hy => Or.inl hy)
      refine wpList_nil ⟨hS, ?_⟩
      refine d_pure hK 9 rfl (by kernel_rfl) (by kernel_rfl) (by kernel_rfl) rfl rfl rfl hS (fun _ _ _ h => h) rfl fun a hK => ?_
      refine d_done (by kernel_rfl) ?_
      refine (nm_block (nm_then ?_))
      refine wp_region_lit ?_
      iterate 3 (refine s1 hK rfl rfl rfl rfl fun a hK => ?_)
      refine wpList_nil (nm_then ?_)
      exact ⟨x127, v129, F130, w131, w64 (i102 + 1), hK.keep [1, 2, 5, 6] rfl, hM.sel [1, 2] rfl (by decide), hf132, h⟩
    · have h := bif_f hb104 h
      refine wp_exit (ex_then (ex_then (ex_same (nm_then ?_))))
      refine wp_seq ?_
      refine wp_region_lit ?_
      iterate 2 (refine s1 hK rfl rfl rfl rfl fun a hK => ?_)
      refine wpList_nil (nm_then ?_)
      refine wp_ret ?_
      have h := Option.some.inj h
      subst h
      exact finR1 hK rfl (RV.tmp hK rfl) ⟨_, F99, rfl, hM.ext, (Enc.ow_agr hf101 (hM.a 1 rfl)), (hM.fresh 1 rfl)⟩
  · exact ⟨([] : List Int), (.slice (some ⟨g21, 0, none⟩) 0 0), [g21], w22, 0, hK.keep [1, 2, 5, 6] rfl, hM.sel [1, 0] rfl (by decide), hf25, h⟩

theorem c_impl_TypeById_1 (fu : Nat) {w0 : World} (t1 : Typ) (x2 : Int) {b3 : Nat} (hp4 : bx w0 b3 [.int .i64 (x2)] 3) {r : Bool}
    (h : d_impl_TypeById_1 fu t1 x2 = some r) :
    Calls Tryz.prog 141 #[.agg (Flat.e (t1)).toArray, .pointer (some (⟨b3, 0, none⟩ : Addr))] w0 fun e w => e = .returned (.bool (r)) ∧ Ext [] w0 w := by
  refine enter (vs := [_, _]) Tryz.func141 rfl Tryz.ntmps141 rfl fun a hK => ?_
  have hM := St.start w0
  unfold d_impl_TypeById_1 at h
  refine wp_seq ?_
  refine wp_region_lit ?_
  refine s_box (cs := [.int .i64 (t1.fId), .int .i64 (t1.fW), .int .i64 (t1.fH), .int .i64 (t1.fD), .int .i64 (t1.fTare), .int .i64 (t1.fGram), .int .i64 (t1.fCost)]) hM hK rfl rfl rfl rfl rfl rfl fun b5 w7 a hK hM hE hb6 => ?_
  refine s1 hK rfl rfl rfl rfl fun a hK => ?_
  refine wpList_nil (nm_then ?_)
  refine wp_seq ?_
  refine wp_region_lit ?_
  refine s_val hK rfl rfl rfl (r_fa fa92_0 hK rfl rfl) fun a hK => ?_
  refine s_val hK rfl rfl rfl (r_ldb t13 hM 0 hb6 0 hK rfl rfl rfl rfl rfl) fun a hK => ?_
  refine s_val hK rfl rfl rfl (r_ld1 t13 (r := []) (hp4.at (hM.a00 hp4.lt1) 0 1 rfl rfl rfl) hK rfl rfl) fun a hK => ?_
  iterate 2 (refine s1 hK rfl rfl rfl rfl fun a hK => ?_)
  refine wpList_nil (nm_then ?_)
  refine wp_ret ?_
  have h := Option.some.inj h
  subst h
  exact finR1 hK rfl (RV.tmp hK rfl) ⟨rfl, hM.ext⟩

theorem c_slices_IndexFunc_impl_Type_impl_Type (fu : Nat) {w0 : World} (sv1 : List Typ) (f5 : Typ → Option Bool) {v2 : Value} {F3 : List Nat} (hp4 : rd w0 F3 [v2] sv1) {v6 : Value} (hp7 : FnOk1 Tryz.prog w0 v6 f5) {r : Int}
    (h : d_slices_IndexFunc_impl_Type_impl_Type fu sv1 f5 = some r) :
    Calls Tryz.prog 140 #[v2, v6] w0 fun e w => e = .returned (.int .i64 (r)) ∧ Ext [] w0 w := by
  refine enter (vs := [_, _]) Tryz.func140 rfl Tryz.ntmps140 rfl fun a hK => ?_
  have hM := St.start w0
  obtain ⟨fid8, cap9, rfl, hcl10, hcc11⟩ := hp7
  unfold d_slices_IndexFunc_impl_Type_impl_Type at h
  refine wp_seq ?_
  refine wp_region_lit ?_
  refine s1 hK rfl rfl rfl rfl fun a hK => ?_
  refine wpList_nil (nm_then ?_)
  refine wp_seq ?_
  refine wp_seq ?_
  refine wp_region_lit ?_
  refine s1 hK rfl rfl rfl rfl fun a hK => ?_
  refine s_val hK rfl rfl rfl (r_len (α := Typ) hp4 hK Tryz.underlying37 rfl rfl) fun a hK => ?_
  refine s1 hK rfl rfl rfl rfl fun a hK => ?_
  refine wpList_nil (nm_then ?_)
  refine wp_block ?_
  refine c_loop (fun n a w => ∃ (x32 : Int), K 19 [(0, v2), (1, (.func (.func fid8) #[] cap9.toArray)), (7, .int .i64 ((sv1.length : Int))), (8, .int .i64 (x32))] a ∧ St [] w0 w [] ∧ d_slices_IndexFunc_impl_Type_impl_Type_L1 fu sv1 f5 n x32 = some r) ?_ ?_ fu _ _ ?_
  · rintro a w ⟨_, _, _, h⟩
    cases (show none = some _ from h)
  · rintro m33 a w31 ⟨x32, hK, hM, h⟩
    rw [d_slices_IndexFunc_impl_Type_impl_Type_L1_s] at h
    unfold d_slices_IndexFunc_impl_Type_impl_Type_L1_B at h
    refine wp_seq ?_
    refine wp_region_lit ?_
    refine s1 hK rfl rfl rfl rfl fun a hK => ?_
    refine wpList_nil (nm_then ?_)
    refine wp_seq ?_
    refine c_cond (b := decide (x32 < ((sv1.length : Int)))) hK rfl (fun hb34 => ?_) (fun hb34 => ?_)
    · have h := bif_t hb34 h
      refine wp_skip (nm_then ?_)
      refine wp_seq ?_
      refine wp_block ?_
      refine wp_seq ?_
      refine wp_region_lit ?_
      iterate 2 (refine s1 hK rfl rfl rfl rfl fun a hK => ?_)
      refine wpList_nil (nm_then ?_)
      refine wp_seq ?_
      refine wp_region_lit ?_
      iterate 3 (refine s1 hK rfl rfl rfl rfl fun a hK => ?_)
      obtain ⟨x35, hx36, h⟩ := obind_some h
      refine s_val hK rfl rfl rfl (r_ixa hp4 hx36 hK ts37 rfl rfl rfl) fun a hK => ?_
      refine s_val hK rfl rfl rfl (r_lde hp4 (hM.a00 (Enc.rd_lt hp4)) hx36 ta92 hK rfl rfl) fun a hK => ?_
      obtain ⟨x37, hx38, h⟩ := obind_some h
      refine s_callv hK hcl10 rfl rfl rfl rfl rfl rfl (hcc11 _ _ _ _ hM.ext rfl hx38) fun e39 w40 hR => ?_
      obtain ⟨rfl, hE⟩ := hR
      refine ⟨_, rfl, fun a hK => ?_⟩
      have hM := hM.step hE
      refine wpList_nil (nm_then ?_)
      refine c_cond (b := x37) hK rfl (fun hb41 => ?_) (fun hb41 => ?_)
      · have h := bif_t hb41 h
        refine wp_seq ?_
        refine wp_region_lit ?_
        iterate 2 (refine s1 hK rfl rfl rfl rfl fun a hK => ?_)
        refine wpList_nil (nm_then ?_)
        refine wp_ret (rt_block (rt_then (rt_then (rt_block (rt_then ?_)))))
        have h := Option.some.inj h
        subst h
        exact finR1 hK rfl (RV.tmp hK rfl) ⟨rfl, hM.ext⟩
      · have h := bif_f hb41 h
        refine wp_skip (nm_block (nm_then ?_))
        refine wp_region_lit ?_
        iterate 2 (refine s1 hK rfl rfl rfl rfl fun a hK => ?_)
        refine wpList_nil (nm_then ?_)
        exact ⟨w64 (x32 + 1), hK.keep [0, 1, 7, 8] rfl, hM.sel [] rfl (by decide), h⟩
    · have h := bif_f hb34 h
      refine wp_exit (ex_then (ex_then (ex_same (nm_then ?_))))
      refine wp_seq ?_
      refine wp_region_lit ?_
      refine s1 hK rfl rfl rfl rfl fun a hK => ?_
      refine wpList_nil (nm_then ?_)
      refine wp_ret ?_
      have h := Option.some.inj h
      subst h
      exact finR1 hK rfl (RV.tmp hK rfl) ⟨rfl, hM.ext⟩
  · exact ⟨0, hK.keep [0, 1, 7, 8] rfl, hM.sel [] rfl (by decide), h⟩

theorem c_impl_TypeById (fu : Nat) {w0 : World} (r1 : Request) (id5 : Int) {cs2 : List Value} {F3 : List Nat} (hp4 : rd w0 F3 cs2 r1) {r : Typ × Bool}
    (h : d_impl_TypeById fu r1 id5 = some r) :
    Calls Tryz.prog 75 #[.agg cs2.toArray, .int .i64 (id5)] w0 fun e w => e = .returned (.tuple #[.agg (Flat.e r.1).toArray, .bool (r.2)]) ∧ Ext [] w0 w := by
  refine enter (vs := [_, _]) Tryz.func75 rfl Tryz.ntmps75 rfl fun a hK => ?_
  have hM := St.start w0
  obtain ⟨v6, F7, v8, F9, v10, F11, rfl, rfl, hf12, hf13, hf14⟩ := hp4
  unfold d_impl_TypeById at h
  refine wp_seq ?_
  refine wp_region_lit ?_
  refine s_box (cs := [.int .i64 (r1.fWay), .int .i64 (r1.fPallet.fW), .int .i64 (r1.fPallet.fD), .int .i64 (r1.fPallet.fH), .int .i64 (r1.fPallet.fGram), .int .i64 (r1.fClasses), v6, v8, .int .i64 (r1.fMaster), v10]) hM hK rfl rfl rfl rfl rfl rfl fun b15 w17 a hK hM hE hb16 => ?_
  refine s_box (cs := [.int .i64 (id5)]) hM hK rfl rfl rfl rfl rfl rfl fun b18 w20 a hK hM hE hb19 => ?_
  refine s_alloc (cs := [.int .i64 (0), .int .i64 (0), .int .i64 (0), .int .i64 (0), .int .i64 (0), .int .i64 (0), .int .i64 (0)]) hM hK Tryz.zeroValue92 rfl rfl rfl rfl rfl fun b21 w23 a hK hM hE hb22 => ?_
  refine s1 hK rfl rfl rfl rfl fun a hK => ?_
  refine wpList_nil (nm_then ?_)
  refine wp_seq ?_
  refine wp_region_lit ?_
  refine s_val hK rfl rfl rfl (r_fa fa40_4 hK rfl rfl) fun a hK => ?_
  refine s_val hK rfl rfl rfl (r_ldb t137 hM 2 hb16 7 hK rfl rfl rfl rfl rfl) fun a hK => ?_
  refine s1 hK rfl rfl rfl rfl fun a hK => ?_
  obtain ⟨x27, hx28, h⟩ := obind_some h
  refine s_call hK Tryz.call140 rfl rfl rfl rfl rfl (c_slices_IndexFunc_impl_Type_impl_Type fu _ _ (Enc.rd_agr hf13 (hM.a00 (Enc.rd_lt hf13))) ⟨141, [.pointer (some (⟨b18, 0, none⟩ : Addr))], rfl, Tryz.call141, fun w y24 v25 r hE hv26 hx => by subst hv26; have hM := hM.step hE; exact c_impl_TypeById_1 fu _ _ (hb19.agr (hM.a 1 rfl) (by simp)) hx⟩ hx28) fun e29 w30 hR => ?_
  obtain ⟨rfl, hE⟩ := hR
  refine ⟨_, rfl, fun a hK => ?_⟩
  have hM := hM.step hE
  refine s1 hK rfl rfl rfl rfl fun a hK => ?_
  refine wpList_nil (nm_then ?_)
  refine wp_seq ?_
  refine wp_seq ?_
  refine wp_region_lit ?_
  iterate 2 (refine s1 hK rfl rfl rfl rfl fun a hK => ?_)
  refine wpList_nil (nm_then ?_)
  refine c_cond (b := decide (x27 < 0)) hK rfl (fun hb31 => ?_) (fun hb31 => ?_)
  · have h := bif_t hb31 h
    refine wp_seq ?_
    refine wp_region_lit ?_
    refine s_val hK rfl rfl rfl (r_build bt92 hK (ps := []) rfl rfl rfl) fun a hK => ?_
    refine s_stb (cs' := [.int .i64 (0), .int .i64 (0), .int .i64 (0), .int .i64 (0), .int .i64 (0), .int .i64 (0), .int .i64 (0)]) Tryz.sizeOf92 hM 0 hb22 0 hK rfl rfl rfl rfl rfl rfl rfl rfl rfl rfl rfl fun w32 a hK hE hM hb33 => ?_
    refine s1 hK rfl rfl rfl rfl fun a hK => ?_
    refine wpList_nil (nm_then ?_)
    refine wp_ret (rt_then ?_)
    have h := Option.some.inj h
    subst h
    exact finR2 hK rfl (RV.cA hK rfl ta92 (hb33.at (hM.a 0 rfl) 0 7 rfl rfl rfl) rfl) (RV.tmp hK rfl) ⟨rfl, hM.ext⟩
  · have h := bif_f hb31 h
    refine wp_skip (nm_then ?_)
    refine wp_seq ?_
    refine wp_region_lit ?_
    refine s_val hK rfl rfl rfl (r_fa fa40_4 hK rfl rfl) fun a hK => ?_
    refine s_val hK rfl rfl rfl (r_ldb t137 hM 2 hb16 7 hK rfl rfl rfl rfl rfl) fun a hK => ?_
    refine s1 hK rfl rfl rfl rfl fun a hK => ?_
    obtain ⟨x34, hx35, h⟩ := obind_some h
    refine s_val hK rfl rfl rfl (r_ixa hf13 hx35 hK ts37 rfl rfl rfl) fun a hK => ?_
    refine s_val hK rfl rfl rfl (r_lde hf13 (hM.a00 (Enc.rd_lt hf13)) hx35 ta92 hK rfl rfl) fun a hK => ?_
    refine s_stb (cs' := [.int .i64 (x34.fId), .int .i64 (x34.fW), .int .i64 (x34.fH), .int .i64 (x34.fD), .int .i64 (x34.fTare), .int .i64 (x34.fGram), .int .i64 (x34.fCost)]) Tryz.sizeOf92 hM 0 hb22 0 hK rfl rfl rfl rfl rfl rfl rfl rfl rfl rfl rfl fun w36 a hK hE hM hb37 => ?_
    refine s1 hK rfl rfl rfl rfl fun a hK => ?_
    refine wpList_nil (nm_then ?_)
    refine wp_ret ?_
    have h := Option.some.inj h
    subst h
    exact finR2 hK rfl (RV.cA hK rfl ta92 (hb37.at (hM.a 0 rfl) 0 7 rfl rfl rfl) rfl) (RV.tmp hK rfl) ⟨rfl, hM.ext⟩

theorem c_impl_MasterOf (fu : Nat) {w0 : World} (r1 : Request) {cs2 : List Value} {F3 : List Nat} (hp4 : rd w0 F3 cs2 r1) {r : Typ × Bool}
    (h : d_impl_MasterOf fu r1 = some r) :
    Calls Tryz.prog 148 #[.agg cs2.toArray] w0 fun e w => e = .returned (.tuple #[.agg (Flat.e r.1).toArray, .bool (r.2)]) ∧ Ext [] w0 w := by
  refine enter (vs := [_]) Tryz.func148 rfl Tryz.ntmps148 rfl fun a hK => ?_
  have hM := St.start w0
  obtain ⟨v5, F6, v7, F8, v9, F10, rfl, rfl, hf11, hf12, hf13⟩ := hp4
  unfold d_impl_MasterOf at h
  refine wp_seq ?_
  refine wp_region_lit ?_
  refine s_box (cs := [.int .i64 (r1.fWay), .int .i64 (r1.fPallet.fW), .int .i64 (r1.fPallet.fD), .int .i64 (r1.fPallet.fH), .int .i64 (r1.fPallet.fGram), .int .i64 (r1.fClasses), v5, v7, .int .i64 (r1.fMaster), v9]) hM hK rfl rfl rfl rfl rfl rfl fun b14 w16 a hK hM hE hb15 => ?_
  refine s_alloc (cs := [.int .i64 (0), .int .i64 (0), .int .i64 (0), .int .i64 (0), .int .i64 (0), .int .i64 (0), .int .i64 (0)]) hM hK Tryz.zeroValue92 rfl rfl rfl rfl rfl fun b17 w19 a hK hM hE hb18 => ?_
  refine s1 hK rfl rfl rfl rfl fun a hK => ?_
  refine wpList_nil (nm_then ?_)
  refine wp_seq ?_
  refine wp_region_lit ?_
  refine s_val hK rfl rfl rfl (r_ldB ta40 hM 1 hb15 0 hK rfl rfl rfl rfl rfl rfl) fun a hK => ?_
  refine s_val hK rfl rfl rfl (r_fa fa40_5 hK rfl rfl) fun a hK => ?_
  refine s_val hK rfl rfl rfl (r_ldb t13 hM 1 hb15 8 hK rfl rfl rfl rfl rfl) fun a hK => ?_
  obtain ⟨x20, hx21, h⟩ := obind_some h
  refine s_call hK Tryz.call75 rfl rfl rfl rfl rfl (c_impl_TypeById fu _ _ (show rd _ _ [.int .i64 (r1.fWay), .int .i64 (r1.fPallet.fW), .int .i64 (r1.fPallet.fD), .int .i64 (r1.fPallet.fH), .int .i64 (r1.fPallet.fGram), .int .i64 (r1.fClasses), v5, v7, .int .i64 (r1.fMaster), v9] (r1 : Request) from ⟨_, _, _, _, _, _, rfl, rfl, (Enc.rd_agr hf11 (hM.a00 (Enc.rd_lt hf11))), (Enc.rd_agr hf12 (hM.a00 (Enc.rd_lt hf12))), (Enc.rd_agr hf13 (hM.a00 (Enc.rd_lt hf13)))⟩) hx21) fun e22 w23 hR => ?_
  obtain ⟨rfl, hE⟩ := hR
  refine ⟨_, rfl, fun a hK => ?_⟩
  have hM := hM.step hE
  iterate 2 (refine s1 hK rfl rfl rfl rfl fun a hK => ?_)
  refine s_stb (cs' := [.int .i64 (x20.1.fId), .int .i64 (x20.1.fW), .int .i64 (x20.1.fH), .int .i64 (x20.1.fD), .int .i64 (x20.1.fTare), .int .i64 (x20.1.fGram), .int .i64 (x20.1.fCost)]) Tryz.sizeOf92 hM 0 hb18 0 hK rfl rfl rfl rfl rfl rfl rfl rfl rfl rfl rfl fun w24 a hK hE hM hb25 => ?_
  refine s1 hK rfl rfl rfl rfl fun a hK => ?_
  refine wpList_nil (nm_then ?_)
  refine wp_ret ?_
  have h := Option.some.inj h
  subst h
  exact finR2 hK rfl (RV.cA hK rfl ta92 (hb25.at (hM.a 0 rfl) 0 7 rfl rfl rfl) rfl) (RV.tmp hK rfl) ⟨rfl, hM.ext⟩

theorem c_impl_in (fu : Nat) {w0 : World} (n1 : Int) (lo2 : Int) (hi3 : Int)  {r : Bool}
    (h : d_impl_in fu n1 lo2 hi3 = some r) :
    Calls Tryz.prog 99 #[.int .i64 (n1), .int .i64 (lo2), .int .i64 (hi3)] w0 fun e w => e = .returned (.bool (r)) ∧ Ext [] w0 w := by
  refine enter (vs := [_, _, _]) Tryz.func99 rfl Tryz.ntmps99 rfl fun a hK => ?_
  have hM := St.start w0
  unfold d_impl_in at h
  refine wp_seq ?_
  refine wp_region_lit ?_
  refine s1 hK rfl rfl rfl rfl fun a hK => ?_
  refine wpList_nil (nm_then ?_)
  refine wp_seq ?_
  refine wp_region_lit ?_
  iterate 4 (refine s1 hK rfl rfl rfl rfl fun a hK => ?_)
  refine bsplit (decide (n1 ≥ lo2)) (fun hb4 => ?_) (fun hb4 => ?_)
  · have h := bif_t hb4 h
    have hK := hK.re (d := 10) rfl (congrArg Value.bool hb4)
    iterate 5 (refine s1 hK rfl rfl rfl rfl fun a hK => ?_)
    refine wpList_nil (nm_then ?_)
    refine wp_ret ?_
    have h := Option.some.inj h
    subst h
    exact finR1 hK rfl (RV.tmp hK rfl) ⟨rfl, hM.ext⟩
  · have h := bif_f hb4 h
    have hK := hK.re (d := 10) rfl (congrArg Value.bool hb4)
    refine sk hK rfl rfl rfl fun a hK => ?_
    refine sk hK rfl rfl rfl fun a hK => ?_
    refine sk hK rfl rfl rfl fun a hK => ?_
    iterate 2 (refine s1 hK rfl rfl rfl rfl fun a hK => ?_)
    refine wpList_nil (nm_then ?_)
    refine wp_ret ?_
    have h := Option.some.inj h
    subst h
    exact finR1 hK rfl (RV.tmp hK rfl) ⟨rfl, hM.ext⟩

theorem c_impl_isSide (fu : Nat) {w0 : World} (n1 : Int)  {r : Bool}
    (h : d_impl_isSide fu n1 = some r) :
    Calls Tryz.prog 224 #[.int .i64 (n1)] w0 fun e w => e = .returned (.bool (r)) ∧ Ext [] w0 w := by
  refine enter (vs := [_]) Tryz.func224 rfl Tryz.ntmps224 rfl fun a hK => ?_
  have hM := St.start w0
  unfold d_impl_isSide at h
  refine wp_seq ?_
  refine wp_region_lit ?_
  refine s1 hK rfl rfl rfl rfl fun a hK => ?_
  refine wpList_nil (nm_then ?_)
  refine wp_seq ?_
  refine wp_region_lit ?_
  refine s1 hK rfl rfl rfl rfl fun a hK => ?_
  obtain ⟨x2, hx3, h⟩ := obind_some h
  refine s_call hK Tryz.call99 rfl rfl rfl rfl rfl (c_impl_in fu _ _ _  hx3) fun e4 w5 hR => ?_
  obtain ⟨rfl, hE⟩ := hR
  refine ⟨_, rfl, fun a hK => ?_⟩
  have hM := hM.step hE
  refine s1 hK rfl rfl rfl rfl fun a hK => ?_
  refine wpList_nil (nm_then ?_)
  refine wp_ret ?_
  have h := Option.some.inj h
  subst h
  exact finR1 hK rfl (RV.tmp hK rfl) ⟨rfl, hM.ext⟩

theorem c_impl_PalletOk (fu : Nat) {w0 : World} (x1 : Pallet)  {r : Bool}
    (h : d_impl_PalletOk fu x1 = some r) :
    Calls Tryz.prog 199 #[.agg (Flat.e (x1)).toArray] w0 fun e w => e = .returned (.bool (r)) ∧ Ext [] w0 w := by
  refine enter (vs := [_]) Tryz.func199 rfl Tryz.ntmps199 rfl fun a hK => ?_
  have hM := St.start w0
  unfold d_impl_PalletOk at h
  refine wp_seq ?_
  refine wp_region_lit ?_
  refine s_box (cs := [.int .i64 (x1.fW), .int .i64 (x1.fD), .int .i64 (x1.fH), .int .i64 (x1.fGram)]) hM hK rfl rfl rfl rfl rfl rfl fun b2 w4 a hK hM hE hb3 => ?_
  refine s1 hK rfl rfl rfl rfl fun a hK => ?_
  refine wpList_nil (nm_then ?_)
  refine wp_seq ?_
  refine wp_region_lit ?_
  refine s_val hK rfl rfl rfl (r_fa fa35_0 hK rfl rfl) fun a hK => ?_
  refine s_val hK rfl rfl rfl (r_ldb t13 hM 0 hb3 0 hK rfl rfl rfl rfl rfl) fun a hK => ?_
  obtain ⟨x5, hx6, h⟩ := obind_some h
  refine s_call hK Tryz.call224 rfl rfl rfl rfl rfl (c_impl_isSide fu _  hx6) fun e7 w8 hR => ?_
  obtain ⟨rfl, hE⟩ := hR
  refine ⟨_, rfl, fun a hK => ?_⟩
  have hM := hM.step hE
  refine s1 hK rfl rfl rfl rfl fun a hK => ?_
  refine bsplit (x5) (fun hb9 => ?_) (fun hb9 => ?_)
  · have h := bif_t hb9 h
    have hK := hK.re (d := 6) rfl (congrArg Value.bool hb9)
    refine s_val hK rfl rfl rfl (r_fa fa35_1 hK rfl rfl) fun a hK => ?_
    refine s_val hK rfl rfl rfl (r_ldb t13 hM 0 hb3 1 hK rfl rfl rfl rfl rfl) fun a hK => ?_
    obtain ⟨x10, hx11, h⟩ := obind_some h
    refine s_call hK Tryz.call224 rfl rfl rfl rfl rfl (c_impl_isSide fu _  hx11) fun e12 w13 hR => ?_
    obtain ⟨rfl, hE⟩ := hR
    refine ⟨_, rfl, fun a hK => ?_⟩
    have hM := hM.step hE
    iterate 2 (refine s1 hK rfl rfl rfl rfl fun a hK => ?_)
    refine bsplit (x10) (fun hb14 => ?_) (fun hb14 => ?_)
    · have h := bif_t hb14 h
      have hK := hK.re (d := 11) rfl (congrArg Value.bool hb14)
      refine s_val hK rfl rfl rfl (r_fa fa35_2 hK rfl rfl) fun a hK => ?_
      refine s_val hK rfl rfl rfl (r_ldb t13 hM 0 hb3 2 hK rfl rfl rfl rfl rfl) fun a hK => ?_
      obtain ⟨x15, hx16, h⟩ := obind_some h
      refine s_call hK Tryz.call224 rfl rfl rfl rfl rfl (c_impl_isSide fu _  hx16) fun e17 w18 hR => ?_
      obtain ⟨rfl, hE⟩ := hR
      refine ⟨_, rfl, fun a hK => ?_⟩
      have hM := hM.step hE
      iterate 2 (refine s1 hK rfl rfl rfl rfl fun a hK => ?_)
      refine bsplit (x15) (fun hb19 => ?_) (fun hb19 => ?_)
      · have h := bif_t hb19 h
        have hK := hK.re (d := 16) rfl (congrArg Value.bool hb19)
        refine s_val hK rfl rfl rfl (r_fa fa35_3 hK rfl rfl) fun a hK => ?_
        refine s_val hK rfl rfl rfl (r_ldb t13 hM 0 hb3 3 hK rfl rfl rfl rfl rfl) fun a hK => ?_
        obtain ⟨x20, hx21, h⟩ := obind_some h
        refine s_call hK Tryz.call99 rfl rfl rfl rfl rfl (c_impl_in fu _ _ _  hx21) fun e22 w23 hR => ?_
        obtain ⟨rfl, hE⟩ := hR
        refine ⟨_, rfl, fun a hK => ?_⟩
        have hM := hM.step hE
        iterate 2 (refine s1 hK rfl rfl rfl rfl fun a hK => ?_)
        refine wpList_nil (nm_then ?_)
        refine wp_ret ?_
        have h := Option.some.inj h
        subst h
        exact finR1 hK rfl (RV.tmp hK rfl) ⟨rfl, hM.ext⟩
      · have h := bif_f hb19 h
        have hK := hK.re (d := 16) rfl (congrArg Value.bool hb19)
        refine sk hK rfl rfl rfl fun a hK => ?_
        refine sk hK rfl rfl rfl fun a hK => ?_
        refine sk hK rfl rfl rfl fun a hK => ?_
        iterate 2 (refine s1 hK rfl rfl rfl rfl fun a hK => ?_)
        refine wpList_nil (nm_then ?_)
        refine wp_ret ?_
        have h := Option.some.inj h
        subst h
        exact finR1 hK rfl (RV.tmp hK rfl) ⟨rfl, hM.ext⟩
    · have h := bif_f hb14 h
      have hK := hK.re (d := 11) rfl (congrArg Value.bool hb14)
      refine sk hK rfl rfl rfl fun a hK => ?_
      refine sk hK rfl rfl rfl fun a hK => ?_
      refine sk hK rfl rfl rfl fun a hK => ?_
      iterate 2 (refine s1 hK rfl rfl rfl rfl fun a hK => ?_)
      refine sk hK rfl rfl rfl fun a hK => ?_
      refine sk hK rfl rfl rfl fun a hK => ?_
      refine sk hK rfl rfl rfl fun a hK => ?_
      iterate 2 (refine s1 hK rfl rfl rfl rfl fun a hK => ?_)
      refine wpList_nil (nm_then ?_)
      refine wp_ret ?_
      have h := Option.some.inj h
      subst h
      exact finR1 hK rfl (RV.tmp hK rfl) ⟨rfl, hM.ext⟩
  · have h := bif_f hb9 h
    have hK := hK.re (d := 6) rfl (congrArg Value.bool hb9)
    refine sk hK rfl rfl rfl fun a hK => ?_
    refine sk hK rfl rfl rfl fun a hK => ?_
    refine sk hK rfl rfl rfl fun a hK => ?_
    iterate 2 (refine s1 hK rfl rfl rfl rfl fun a hK => ?_)
    refine sk hK rfl rfl rfl fun a hK => ?_
    refine sk hK rfl rfl rfl fun a hK => ?_
    refine sk hK rfl rfl rfl fun a hK => ?_
    iterate 2 (refine s1 hK rfl rfl rfl rfl fun a hK => ?_)
    refine sk hK rfl rfl rfl fun a hK => ?_
    refine sk hK rfl rfl rfl fun a hK => ?_
    refine sk hK rfl rfl rfl fun a hK => ?_
    iterate 2 (refine s1 hK rfl rfl rfl rfl fun a hK => ?_)
    refine wpList_nil (nm_then ?_)
    refine wp_ret ?_
    have h := Option.some.inj h
    subst h
    exact finR1 hK rfl (RV.tmp hK rfl) ⟨rfl, hM.ext⟩

theorem c_slices_IndexFunc_impl_Pair_impl_Pair (fu : Nat) {w0 : World} (sv1 : List Pair) (f5 : Pair → Option Bool) {v2 : Value} {F3 : List Nat} (hp4 : rd w0 F3 [v2] sv1) {v6 : Value} (hp7 : FnOk1 Tryz.prog w0 v6 f5) {r : Int}
    (h : d_slices_IndexFunc_impl_Pair_impl_Pair fu sv1 f5 = some r) :
    Calls Tryz.prog 225 #[v2, v6] w0 fun e w => e = .returned (.int .i64 (r)) ∧ Ext [] w0 w := by
  refine enter (vs := [_, _]) Tryz.func225 rfl Tryz.ntmps225 rfl fun a hK => ?_
  have hM := St.start w0
  obtain ⟨fid8, cap9, rfl, hcl10, hcc11⟩ := hp7
  unfold d_slices_IndexFunc_impl_Pair_impl_Pair at h
  refine wp_seq ?_
  refine wp_region_lit ?_
  refine s1 hK rfl rfl rfl rfl fun a hK => ?_
  refine wpList_nil (nm_then ?_)
  refine wp_seq ?_
  refine wp_seq ?_
  refine wp_region_lit ?_
  refine s1 hK rfl rfl rfl rfl fun a hK => ?_
  refine s_val hK rfl rfl rfl (r_len (α := Pair) hp4 hK Tryz.underlying36 rfl rfl) fun a hK => ?_
  refine s1 hK rfl rfl rfl rfl fun a hK => ?_
  refine wpList_nil (nm_then ?_)
  refine wp_block ?_
  refine c_loop (fun n a w => ∃ (x32 : Int), K 19 [(0, v2), (1, (.func (.func fid8) #[] cap9.toArray)), (7, .int .i64 ((sv1.length : Int))), (8, .int .i64 (x32))] a ∧ St [] w0 w [] ∧ d_slices_IndexFunc_impl_Pair_impl_Pair_L1 fu sv1 f5 n x32 = some r) ?_ ?_ fu _ _ ?_
  · rintro a w ⟨_, _, _, h⟩
    cases (show none = some _ from h)
  · rintro m33 a w31 ⟨x32, hK, hM, h⟩
    rw [d_slices_IndexFunc_impl_Pair_impl_Pair_L1_s] at h
    unfold d_slices_IndexFunc_impl_Pair_impl_Pair_L1_B at h
    refine wp_seq ?_
    refine wp_region_lit ?_
    refine s1 hK rfl rfl rfl rfl fun a hK => ?_
    refine wpList_nil (nm_then ?_)
    refine wp_seq ?_
    refine c_cond (b := decide (x32 < ((sv1.length : Int)))) hK rfl (fun hb34 => ?_) (fun hb34 => ?_)
    · have h := bif_t hb34 h
      refine wp_skip (nm_then ?_)
      refine wp_seq ?_
      refine wp_block ?_
      refine wp_seq ?_
      refine wp_region_lit ?_
      iterate 2 (refine s1 hK rfl rfl rfl rfl fun a hK => ?_)
      refine wpList_nil (nm_then ?_)
      refine wp_seq ?_
      refine wp_region_lit ?_
      iterate 3 (refine s1 hK rfl rfl rfl rfl fun a hK => ?_)
      obtain ⟨x35, hx36, h⟩ := obind_some h
      refine s_val hK rfl rfl rfl (r_ixa hp4 hx36 hK ts36 rfl rfl rfl) fun a hK => ?_
      refine s_val hK rfl rfl rfl (r_lde hp4 (hM.a00 (Enc.rd_lt hp4)) hx36 ta144 hK rfl rfl) fun a hK => ?_
      obtain ⟨x37, hx38, h⟩ := obind_some h
      refine s_callv hK hcl10 rfl rfl rfl rfl rfl rfl (hcc11 _ _ _ _ hM.ext rfl hx38) fun e39 w40 hR => ?_
      obtain ⟨rfl, hE⟩ := hR
      refine ⟨_, rfl, fun a hK => ?_⟩
      have hM := hM.step hE
      refine wpList_nil (nm_then ?_)
      refine c_cond (b := x37) hK rfl (fun hb41 => ?_) (fun hb41 => ?_)
      · have h := bif_t hb41 h
        refine wp_seq ?_
        refine wp_region_lit ?_
        iterate 2 (refine s1 hK rfl rfl rfl rfl fun a hK => ?_)
        refine wpList_nil (nm_then ?_)
        refine wp_ret (rt_block (rt_then (rt_then (rt_block (rt_then ?_)))))
        have h := Option.some.inj h
        subst h
        exact finR1 hK rfl (RV.tmp hK rfl) ⟨rfl, hM.ext⟩
      · have h := bif_f hb41 h
        refine wp_skip (nm_block (nm_then ?_))
        refine wp_region_lit ?_
        iterate 2 (refine s1 hK rfl rfl rfl rfl fun a hK => ?_)
        refine wpList_nil (nm_then ?_)
        exact ⟨w64 (x32 + 1), hK.keep [0, 1, 7, 8] rfl, hM.sel [] rfl (by decide), h⟩
    · have h := bif_f hb34 h
      refine wp_exit (ex_then (ex_then (ex_same (nm_then ?_))))
      refine wp_seq ?_
      refine wp_region_lit ?_
      refine s1 hK rfl rfl rfl rfl fun a hK => ?_
      refine wpList_nil (nm_then ?_)
      refine wp_ret ?_
      have h := Option.some.inj h
      subst h
      exact finR1 hK rfl (RV.tmp hK rfl) ⟨rfl, hM.ext⟩
  · exact ⟨0, hK.keep [0, 1, 7, 8] rfl, hM.sel [] rfl (by decide), h⟩

theorem c_slices_ContainsFunc_impl_Pair_impl_Pair (fu : Nat) {w0 : World} (sv1 : List Pair) (f5 : Pair → Option Bool) {v2 : Value} {F3 : List Nat} (hp4 : rd w0 F3 [v2] sv1) {v6 : Value} (hp7 : FnOk1 Tryz.prog w0 v6 f5) {r : Bool}
    (h : d_slices_ContainsFunc_impl_Pair_impl_Pair fu sv1 f5 = some r) :
    Calls Tryz.prog 200 #[v2, v6] w0 fun e w => e = .returned (.bool (r)) ∧ Ext [] w0 w := by
  refine enter (vs := [_, _]) Tryz.func200 rfl Tryz.ntmps200 rfl fun a hK => ?_
  have hM := St.start w0
  obtain ⟨fid8, cap9, rfl, hcl10, hcc11⟩ := hp7
  unfold d_slices_ContainsFunc_impl_Pair_impl_Pair at h
  refine wp_seq ?_
  refine wp_region_lit ?_
  refine s1 hK rfl rfl rfl rfl fun a hK => ?_
  refine wpList_nil (nm_then ?_)
  refine wp_seq ?_
  refine wp_region_lit ?_
  iterate 2 (refine s1 hK rfl rfl rfl rfl fun a hK => ?_)
  obtain ⟨x14, hx15, h⟩ := obind_some h
  refine s_call hK Tryz.call225 rfl rfl rfl rfl rfl (c_slices_IndexFunc_impl_Pair_impl_Pair fu _ _ (Enc.rd_agr hp4 (hM.a00 (Enc.rd_lt hp4))) ⟨_, _, rfl, hcl10, fun w y12 v13 r hE => hcc11 w y12 v13 r (hM.ext.trans hE (by simp))⟩ hx15) fun e16 w17 hR => ?_
  obtain ⟨rfl, hE⟩ := hR
  refine ⟨_, rfl, fun a hK => ?_⟩
  have hM := hM.step hE
  iterate 2 (refine s1 hK rfl rfl rfl rfl fun a hK => ?_)
  refine wpList_nil (nm_then ?_)
  refine wp_ret ?_
  have h := Option.some.inj h
  subst h
  exact finR1 hK rfl (RV.tmp hK rfl) ⟨rfl, hM.ext⟩

theorem c_impl_BoundsOk_1 (fu : Nat) {w0 : World} (p1 : Pair)  {r : Bool}
    (h : d_impl_BoundsOk_1 fu p1 = some r) :
    Calls Tryz.prog 201 #[.agg (Flat.e (p1)).toArray] w0 fun e w => e = .returned (.bool (r)) ∧ Ext [] w0 w := by
  refine enter (vs := [_]) Tryz.func201 rfl Tryz.ntmps201 rfl fun a hK => ?_
  have hM := St.start w0
  unfold d_impl_BoundsOk_1 at h
  refine wp_seq ?_
  refine wp_region_lit ?_
  refine s_box (cs := [.int .i64 (p1.fA), .int .i64 (p1.fB)]) hM hK rfl rfl rfl rfl rfl rfl fun b2 w4 a hK hM hE hb3 => ?_
  refine s1 hK rfl rfl rfl rfl fun a hK => ?_
  refine wpList_nil (nm_then ?_)
  refine wp_seq ?_
  refine wp_region_lit ?_
  refine s_val hK rfl rfl rfl (r_fa fa144_0 hK rfl rfl) fun a hK => ?_
  refine s_val hK rfl rfl rfl (r_ldb t13 hM 0 hb3 0 hK rfl rfl rfl rfl rfl) fun a hK => ?_
  obtain ⟨x5, hx6, h⟩ := obind_some h
  refine s_call hK Tryz.call99 rfl rfl rfl rfl rfl (c_impl_in fu _ _ _  hx6) fun e7 w8 hR => ?_
  obtain ⟨rfl, hE⟩ := hR
  refine ⟨_, rfl, fun a hK => ?_⟩
  have hM := hM.step hE
  iterate 2 (refine s1 hK rfl rfl rfl rfl fun a hK => ?_)
  refine bsplit (!x5) (fun hb9 => ?_) (fun hb9 => ?_)
  · have h := bif_t hb9 h
    have hK := hK.re (d := 7) rfl (congrArg Value.bool hb9)
    refine sk hK rfl rfl rfl fun a hK => ?_
    refine sk hK rfl rfl rfl fun a hK => ?_
    refine sk hK rfl rfl rfl fun a hK => ?_
    refine sk hK rfl rfl rfl fun a hK => ?_
    iterate 2 (refine s1 hK rfl rfl rfl rfl fun a hK => ?_)
    refine wpList_nil (nm_then ?_)
    refine wp_ret ?_
    have h := Option.some.inj h
    subst h
    exact finR1 hK rfl (RV.tmp hK rfl) ⟨rfl, hM.ext⟩
  · have h := bif_f hb9 h
    have hK := hK.re (d := 7) rfl (congrArg Value.bool hb9)
    refine s_val hK rfl rfl rfl (r_fa fa144_1 hK rfl rfl) fun a hK => ?_
    refine s_val hK rfl rfl rfl (r_ldb t13 hM 0 hb3 1 hK rfl rfl rfl rfl rfl) fun a hK => ?_
    obtain ⟨x10, hx11, h⟩ := obind_some h
    refine s_call hK Tryz.call99 rfl rfl rfl rfl rfl (c_impl_in fu _ _ _  hx11) fun e12 w13 hR => ?_
    obtain ⟨rfl, hE⟩ := hR
    refine ⟨_, rfl, fun a hK => ?_⟩
    have hM := hM.step hE
    iterate 3 (refine s1 hK rfl rfl rfl rfl fun a hK => ?_)
    refine wpList_nil (nm_then ?_)
    refine wp_ret ?_
    have h := Option.some.inj h
    subst h
    exact finR1 hK rfl (RV.tmp hK rfl) ⟨rfl, hM.ext⟩

theorem c_slices_ContainsFunc_impl_Type_impl_Type (fu : Nat) {w0 : World} (sv1 : List Typ) (f5 : Typ → Option Bool) {v2 : Value} {F3 : List Nat} (hp4 : rd w0 F3 [v2] sv1) {v6 : Value} (hp7 : FnOk1 Tryz.prog w0 v6 f5) {r : Bool}
    (h : d_slices_ContainsFunc_impl_Type_impl_Type fu sv1 f5 = some r) :
    Calls Tryz.prog 184 #[v2, v6] w0 fun e w => e = .returned (.bool (r)) ∧ Ext [] w0 w := by
  refine enter (vs := [_, _]) Tryz.func184 rfl Tryz.ntmps184 rfl fun a hK => ?_
  have hM := St.start w0
  obtain ⟨fid8, cap9, rfl, hcl10, hcc11⟩ := hp7
  unfold d_slices_ContainsFunc_impl_Type_impl_Type at h
  refine wp_seq ?_
  refine wp_region_lit ?_
  refine s1 hK rfl rfl rfl rfl fun a hK => ?_
  refine wpList_nil (nm_then ?_)
  refine wp_seq ?_
  refine wp_region_lit ?_
  iterate 2 (refine s1 hK rfl rfl rfl rfl fun a hK => ?_)
  obtain ⟨x14, hx15, h⟩ := obind_some h
  refine s_call hK Tryz.call140 rfl rfl rfl rfl rfl (c_slices_IndexFunc_impl_Type_impl_Type fu _ _ (Enc.rd_agr hp4 (hM.a00 (Enc.rd_lt hp4))) ⟨_, _, rfl, hcl10, fun w y12 v13 r hE => hcc11 w y12 v13 r (hM.ext.trans hE (by simp))⟩ hx15) fun e16 w17 hR => ?_
  obtain ⟨rfl, hE⟩ := hR
  refine ⟨_, rfl, fun a hK => ?_⟩
  have hM := hM.step hE
  iterate 2 (refine s1 hK rfl rfl rfl rfl fun a hK => ?_)
  refine wpList_nil (nm_then ?_)
  refine wp_ret ?_
  have h := Option.some.inj h
  subst h
  exact finR1 hK rfl (RV.tmp hK rfl) ⟨rfl, hM.ext⟩

theorem c_impl_TypeOk (fu : Nat) {w0 : World} (x1 : Typ)  {r : Bool}
    (h : d_impl_TypeOk fu x1 = some r) :
    Calls Tryz.prog 203 #[.agg (Flat.e (x1)).toArray] w0 fun e w => e = .returned (.bool (r)) ∧ Ext [] w0 w := by
  refine enter (vs := [_]) Tryz.func203 rfl Tryz.ntmps203 rfl fun a hK => ?_
  have hM := St.start w0
  unfold d_impl_TypeOk at h
  refine wp_seq ?_
  refine wp_region_lit ?_
  refine s_box (cs := [.int .i64 (x1.fId), .int .i64 (x1.fW), .int .i64 (x1.fH), .int .i64 (x1.fD), .int .i64 (x1.fTare), .int .i64 (x1.fGram), .int .i64 (x1.fCost)]) hM hK rfl rfl rfl rfl rfl rfl fun b2 w4 a hK hM hE hb3 => ?_
  refine s1 hK rfl rfl rfl rfl fun a hK => ?_
  refine wpList_nil (nm_then ?_)
  refine wp_seq ?_
  refine wp_region_lit ?_
  refine s_val hK rfl rfl rfl (r_fa fa92_0 hK rfl rfl) fun a hK => ?_
  refine s_val hK rfl rfl rfl (r_ldb t13 hM 0 hb3 0 hK rfl rfl rfl rfl rfl) fun a hK => ?_
  obtain ⟨x5, hx6, h⟩ := obind_some h
  refine s_call hK Tryz.call99 rfl rfl rfl rfl rfl (c_impl_in fu _ _ _  hx6) fun e7 w8 hR => ?_
  obtain ⟨rfl, hE⟩ := hR
  refine ⟨_, rfl, fun a hK => ?_⟩
  have hM := hM.step hE
  refine s1 hK rfl rfl rfl rfl fun a hK => ?_
  refine bsplit (x5) (fun hb9 => ?_) (fun hb9 => ?_)
  · have h := bif_t hb9 h
    have hK := hK.re (d := 6) rfl (congrArg Value.bool hb9)
    refine s_val hK rfl rfl rfl (r_fa fa92_1 hK rfl rfl) fun a hK => ?_
    refine s_val hK rfl rfl rfl (r_ldb t13 hM 0 hb3 1 hK rfl rfl rfl rfl rfl) fun a hK => ?_
    obtain ⟨x10, hx11, h⟩ := obind_some h
    refine s_call hK Tryz.call224 rfl rfl rfl rfl rfl (c_impl_isSide fu _  hx11) fun e12 w13 hR => ?_
    obtain ⟨rfl, hE⟩ := hR
    refine ⟨_, rfl, fun a hK => ?_⟩
    have hM := hM.step hE
    iterate 2 (refine s1 hK rfl rfl rfl rfl fun a hK => ?_)
    refine bsplit (x10) (fun hb14 => ?_) (fun hb14 => ?_)
    · have h := bif_t hb14 h
      have hK := hK.re (d := 11) rfl (congrArg Value.bool hb14)
      refine s_val hK rfl rfl rfl (r_fa fa92_2 hK rfl rfl) fun a hK => ?_
      refine s_val hK rfl rfl rfl (r_ldb t13 hM 0 hb3 2 hK rfl rfl rfl rfl rfl) fun a hK => ?_
      obtain ⟨x15, hx16, h⟩ := obind_some h
      refine s_call hK Tryz.call224 rfl rfl rfl rfl rfl (c_impl_isSide fu _  hx16) fun e17 w18 hR => ?_
      obtain ⟨rfl, hE⟩ := hR
      refine ⟨_, rfl, fun a hK => ?_⟩
      have hM := hM.step hE
      iterate 2 (refine s1 hK rfl rfl rfl rfl fun a hK => ?_)
      refine bsplit (x15) (fun hb19 => ?_) (fun hb19 => ?_)
      · have h := bif_t hb19 h
        have hK := hK.re (d := 16) rfl (congrArg Value.bool hb19)
        refine s_val hK rfl rfl rfl (r_fa fa92_3 hK rfl rfl) fun a hK => ?_
        refine s_val hK rfl rfl rfl (r_ldb t13 hM 0 hb3 3 hK rfl rfl rfl rfl rfl) fun a hK => ?_
        obtain ⟨x20, hx21, h⟩ := obind_some h
        refine s_call hK Tryz.call224 rfl rfl rfl rfl rfl (c_impl_isSide fu _  hx21) fun e22 w23 hR => ?_
        obtain ⟨rfl, hE⟩ := hR
        refine ⟨_, rfl, fun a hK => ?_⟩
        have hM := hM.step hE
        iterate 2 (refine s1 hK rfl rfl rfl rfl fun a hK => ?_)
        refine bsplit (x20) (fun hb24 => ?_) (fun hb24 => ?_)
        · have h := bif_t hb24 h
          have hK := hK.re (d := 21) rfl (congrArg Value.bool hb24)
          refine s_val hK rfl rfl rfl (r_fa fa92_4 hK rfl rfl) fun a hK => ?_
          refine s_val hK rfl rfl rfl (r_ldb t13 hM 0 hb3 4 hK rfl rfl rfl rfl rfl) fun a hK => ?_
          obtain ⟨x25, hx26, h⟩ := obind_some h
          refine s_call hK Tryz.call99 rfl rfl rfl rfl rfl (c_impl_in fu _ _ _  hx26) fun e27 w28 hR => ?_
          obtain ⟨rfl, hE⟩ := hR
          refine ⟨_, rfl, fun a hK => ?_⟩
          have hM := hM.step hE
          iterate 2 (refine s1 hK rfl rfl rfl rfl fun a hK => ?_)
          refine bsplit (x25) (fun hb29 => ?_) (fun hb29 => ?_)
          · have h := bif_t hb29 h
            have hK := hK.re (d := 26) rfl (congrArg Value.bool hb29)
            refine s_val hK rfl rfl rfl (r_fa fa92_5 hK rfl rfl) fun a hK => ?_
            refine s_val hK rfl rfl rfl (r_ldb t13 hM 0 hb3 5 hK rfl rfl rfl rfl rfl) fun a hK => ?_
            obtain ⟨x30, hx31, h⟩ := obind_some h
            refine s_call hK Tryz.call99 rfl rfl rfl rfl rfl (c_impl_in fu _ _ _  hx31) fun e32 w33 hR => ?_
            obtain ⟨rfl, hE⟩ := hR
            refine ⟨_, rfl, fun a hK => ?_⟩
            have hM := hM.step hE
            iterate 2 (refine s1 hK rfl rfl rfl rfl fun a hK => ?_)
            refine bsplit (x30) (fun hb34 => ?_) (fun hb34 => ?_)
            · have h := bif_t hb34 h
              have hK := hK.re (d := 31) rfl (congrArg Value.bool hb34)
              refine s_val hK rfl rfl rfl (r_fa fa92_6 hK rfl rfl) fun a hK => ?_
              refine s_val hK rfl rfl rfl (r_ldb t13 hM 0 hb3 6 hK rfl rfl rfl rfl rfl) fun a hK => ?_
              obtain ⟨x35, hx36, h⟩ := obind_some h
              refine s_call hK Tryz.call99 rfl rfl rfl rfl rfl (c_impl_in fu _ _ _  hx36) fun e37 w38 hR => ?_
              obtain ⟨rfl, hE⟩ := hR
              refine ⟨_, rfl, fun a hK => ?_⟩
              have hM := hM.step hE
              iterate 2 (refine s1 hK rfl rfl rfl rfl fun a hK => ?_)
              have hK := hK.keep [2] rfl
              refine wpList_nil (nm_then ?_)
              refine wp_ret ?_
              have h := Option.some.inj h
              subst h
              exact finR1 hK rfl (RV.tmp hK rfl) ⟨rfl, hM.ext⟩
            · have h := bif_f hb34 h
              have hK := hK.re (d := 31) rfl (congrArg Value.bool hb34)
              refine sk hK rfl rfl rfl fun a hK => ?_
              refine sk hK rfl rfl rfl fun a hK => ?_
              refine sk hK rfl rfl rfl fun a hK => ?_
              iterate 2 (refine s1 hK rfl rfl rfl rfl fun a hK => ?_)
              have hK := hK.keep [2] rfl
              refine wpList_nil (nm_then ?_)
              refine wp_ret ?_
              have h := Option.some.inj h
              subst h
              exact finR1 hK rfl (RV.tmp hK rfl) ⟨rfl, hM.ext⟩
          · have h := bif_f hb29 h
            have hK := hK.re (d := 26) rfl (congrArg Value.bool hb29)
            refine sk hK rfl rfl rfl fun a hK => ?_
            refine sk hK rfl rfl rfl fun a hK => ?_
            refine sk hK rfl rfl rfl fun a hK => ?_
            iterate 2 (refine s1 hK rfl rfl rfl rfl fun a hK => ?_)
            refine sk hK rfl rfl rfl fun a hK => ?_
            refine sk hK rfl rfl rfl fun a hK => ?_
            refine sk hK rfl rfl rfl fun a hK => ?_
            iterate 2 (refine s1 hK rfl rfl rfl rfl fun a hK => ?_)
            have hK := hK.keep [2] rfl
            refine wpList_nil (nm_then ?_)
            refine wp_ret ?_
            have h := Option.some.inj h
            subst h
            exact finR1 hK rfl (RV.tmp hK rfl) ⟨rfl, hM.ext⟩
        · have h := bif_f hb24 h
          have hK := hK.re (d := 21) rfl (congrArg Value.bool hb24)
          refine sk hK rfl rfl rfl fun a hK => ?_
          refine sk hK rfl rfl rfl fun a hK => ?_
          refine sk hK rfl rfl rfl fun a hK => ?_
          iterate 2 (refine s1 hK rfl rfl rfl rfl fun a hK => ?_)
          refine sk hK rfl rfl rfl fun a hK => ?_
          refine sk hK rfl rfl rfl fun a hK => ?_
          refine sk hK rfl rfl rfl fun a hK => ?_
          iterate 2 (refine s1 hK rfl rfl rfl rfl fun a hK => ?_)
          refine sk hK rfl rfl rfl fun a hK => ?_
          refine sk hK rfl rfl rfl fun a hK => ?_
          refine sk hK rfl rfl rfl fun a hK => ?_
          iterate 2 (refine s1 hK rfl rfl rfl rfl fun a hK => ?_)
          have hK := hK.keep [2] rfl
          refine wpList_nil (nm_then ?_)
          refine wp_ret ?_
          have h := Option.some.inj h
          subst h
          exact finR1 hK rfl (RV.tmp hK rfl) ⟨rfl, hM.ext⟩
      · have h := bif_f hb19 h
        have hK := hK.re (d := 16) rfl (congrArg Value.bool hb19)
        refine sk hK rfl rfl rfl fun a hK => ?_
        refine sk hK rfl rfl rfl fun a hK => ?_
        refine sk hK rfl rfl rfl fun a hK => ?_
        iterate 2 (refine s1 hK rfl rfl rfl rfl fun a hK => ?_)
        refine sk hK rfl rfl rfl fun a hK => ?_
        refine sk hK rfl rfl rfl fun a hK => ?_
        refine sk hK rfl rfl rfl fun a hK => ?_
        iterate 2 (refine s1 hK rfl rfl rfl rfl fun a hK => ?_)
        refine sk hK rfl rfl rfl fun a hK => ?_
        refine sk hK rfl rfl rfl fun a hK => ?_
        refine sk hK rfl rfl rfl fun a hK => ?_
        iterate 2 (refine s1 hK rfl rfl rfl rfl fun a hK => ?_)
        refine sk hK rfl rfl rfl fun a hK => ?_
        refine sk hK rfl rfl rfl fun a hK => ?_
        refine sk hK rfl rfl rfl fun a hK => ?_
        iterate 2 (refine s1 hK rfl rfl rfl rfl fun a hK => ?_)
        have hK := hK.keep [2] rfl
        refine wpList_nil (nm_then ?_)
        refine wp_ret ?_
        have h := Option.some.inj h
        subst h
        exact finR1 hK rfl (RV.tmp hK rfl) ⟨rfl, hM.ext⟩
    · have h := bif_f hb14 h
      have hK := hK.re (d := 11) rfl (congrArg Value.bool hb14)
      refine sk hK rfl rfl rfl fun a hK => ?_
      refine sk hK rfl rfl rfl fun a hK => ?_
      refine sk hK rfl rfl rfl fun a hK => ?_
      iterate 2 (refine s1 hK rfl rfl rfl rfl fun a hK => ?_)
      refine sk hK rfl rfl rfl fun a hK => ?_
      refine sk hK rfl rfl rfl fun a hK => ?_
      refine sk hK rfl rfl rfl fun a hK => ?_
      iterate 2 (refine s1 hK rfl rfl rfl rfl fun a hK => ?_)
      refine sk hK rfl rfl rfl fun a hK => ?_
      refine sk hK rfl rfl rfl fun a hK => ?_
      refine sk hK rfl rfl rfl fun a hK => ?_
      iterate 2 (refine s1 hK rfl rfl rfl rfl fun a hK => ?_)
      refine sk hK rfl rfl rfl fun a hK => ?_
      refine sk hK rfl rfl rfl fun a hK => ?_
      refine sk hK rfl rfl rfl fun a hK => ?_
      iterate 2 (refine s1 hK rfl rfl rfl rfl fun a hK => ?_)
      refine sk hK rfl rfl rfl fun a hK => ?_
      refine sk hK rfl rfl rfl fun a hK => ?_
      refine sk hK rfl rfl rfl fun a hK => ?_
      iterate 2 (refine s1 hK rfl rfl rfl rfl fun a hK => ?_)
      have hK := hK.keep [2] rfl
      refine wpList_nil (nm_then ?_)
      refine wp_ret ?_
      have h := Option.some.inj h
      subst h
      exact finR1 hK rfl (RV.tmp hK rfl) ⟨rfl, hM.ext⟩
  · have h := bif_f hb9 h
    have hK := hK.re (d := 6) rfl (congrArg Value.bool hb9)
    refine sk hK rfl rfl rfl fun a hK => ?_
    refine sk hK rfl rfl rfl fun a hK => ?_
    refine sk hK rfl rfl rfl fun a hK => ?_
    iterate 2 (refine s1 hK rfl rfl rfl rfl fun a hK => ?_)
    refine sk hK rfl rfl rfl fun a hK => ?_
    refine sk hK rfl rfl rfl fun a hK => ?_
    refine sk hK rfl rfl rfl fun a hK => ?_
    iterate 2 (refine s1 hK rfl rfl rfl rfl fun a hK => ?_)
    refine sk hK rfl rfl rfl fun a hK => ?_
    refine sk hK rfl rfl rfl fun a hK => ?_
    refine sk hK rfl rfl rfl fun a hK => ?_
    iterate 2 (refine s1 hK rfl rfl rfl rfl fun a hK => ?_)
    refine sk hK rfl rfl rfl fun a hK => ?_
    refine sk hK rfl rfl rfl fun a hK => ?_
    refine sk hK rfl rfl rfl fun a hK => ?_
    iterate 2 (refine s1 hK rfl rfl rfl rfl fun a hK => ?_)
    refine sk hK rfl rfl rfl fun a hK => ?_
    refine sk hK rfl rfl rfl fun a hK => ?_
    refine sk hK rfl rfl rfl fun a hK => ?_
    iterate 2 (refine s1 hK rfl rfl rfl rfl fun a hK => ?_)
    refine sk hK rfl rfl rfl fun a hK => ?_
    refine sk hK rfl rfl rfl fun a hK => ?_
    refine sk hK rfl rfl rfl fun a hK => ?_
    iterate 2 (refine s1 hK rfl rfl rfl rfl fun a hK => ?_)
    have hK := hK.keep [2] rfl
    refine wpList_nil (nm_then ?_)
    refine wp_ret ?_
    have h := Option.some.inj h
    subst h
    exact finR1 hK rfl (RV.tmp hK rfl) ⟨rfl, hM.ext⟩

end Go.Proofs.YthjbcfefkdbgoaaGreat
