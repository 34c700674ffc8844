/- FnExactFills: the walks of functions that the law reaches, part 4. Printed by gen.py. -/
import Derived.Test.YthjbcfefkdbgoaaGreatExactFillsW3
set_option maxRecDepth 20000
set_option linter.unusedSimpArgs false
set_option linter.unusedVariables false
namespace Go.Proofs.YthjbcfefkdbgoaaGreat
open Go Go.RowKit
open Enc (rd ow)
open Arg (argv)
open Ret (retv)

theorem seq144 : SEq Tryz.prog 144 Pair := seqPair Tryz.underlying144 Tryz.stoodInHeld144 Tryz.eqGuardType144 Tryz.underlying3 rfl
theorem bt144 : BT Tryz.prog 144 [.int .i64 0, .int .i64 0] #[(0, 1), (1, 1)] := ⟨Tryz.zeroValue144, _, Tryz.underlying144, fun w => by simp [Tryz.sizeOf3]⟩

def d_impl_BoundsOk_2 (fu : Nat) (t1 : Typ) : Option (Bool) :=
  obind (d_impl_TypeOk fu t1) fun x5 => some (!x5)

def d_impl_ItemOk (fu : Nat) (x1 : Item) : Option (Bool) :=
  obind (d_impl_in fu x1.fId 0 999) fun x5 => bif x5 then obind (d_impl_isSide fu x1.fW) fun x10 => bif x10 then obind (d_impl_isSide fu x1.fH) fun x15 => bif x15 then obind (d_impl_isSide fu x1.fD) fun x20 => bif x20 then obind (d_impl_in fu x1.fGram 1 100000) fun x25 => bif x25 then obind (d_impl_in fu x1.fClass 0 3) fun x30 => bif x30 then obind (d_impl_in fu x1.fCount 1 6) fun x35 => some (x35) else some (false) else some (false) else some (false) else some (false) else some (false) else some (false)

def d_impl_BoundsOk_L1_B (fu : Nat)  (r1 : Request) (k3 : Int → Int → Option (Bool)) (units93 : Int) (x94 : Int) : Option (Bool) :=
  bif (decide (x94 < ((r1.fItems.length : Int)))) then obind (ix r1.fItems x94) fun x97 => obind (d_impl_ItemOk fu x97) fun x104 => bif (!x104) then some (false) else k3 (w64 (units93 + x97.fCount)) (w64 (x94 + 1)) else some (decide (units93 ≤ 12))
def d_impl_BoundsOk_L1 (fu : Nat)  (r1 : Request) : Nat → Int → Int → Option (Bool)
  | 0 => fun _ _ => none
  | n + 1 => d_impl_BoundsOk_L1_B fu r1 (d_impl_BoundsOk_L1 fu r1 n)
theorem d_impl_BoundsOk_L1_s (fu : Nat)  (r1 : Request) (n : Nat) : d_impl_BoundsOk_L1 fu r1 (n + 1) = d_impl_BoundsOk_L1_B fu r1 (d_impl_BoundsOk_L1 fu r1 n) := rfl

def d_impl_BoundsOk_J1 (fu : Nat) (r1 : Request)  : Option (Bool) :=
  d_impl_BoundsOk_L1 fu r1 fu 0 0

def d_impl_BoundsOk_J2 (fu : Nat) (r1 : Request)  : Option (Bool) :=
  obind (d_slices_ContainsFunc_impl_Pair_impl_Pair fu r1.fPairs (fun y34 => d_impl_BoundsOk_1 fu y34)) fun x37 => bif x37 then some (false) else obind (d_impl_in fu ((r1.fTypes.length : Int)) 1 5) fun x109 => bif (!x109) then some (false) else obind (d_slices_ContainsFunc_impl_Type_impl_Type fu r1.fTypes (fun y114 => d_impl_BoundsOk_2 fu y114)) fun x117 => bif x117 then some (false) else obind (d_impl_in fu r1.fMaster 0 999) fun x122 => bif (!x122) then some (false) else bif (decide (((r1.fItems.length : Int)) > 8)) then some (false) else d_impl_BoundsOk_J1 fu r1

def d_impl_BoundsOk (fu : Nat) (r1 : Request) : Option (Bool) :=
  obind (d_impl_in fu r1.fWay 0 1) fun x128 => bif (!x128) then some (false) else obind (d_impl_PalletOk fu r1.fPallet) fun x133 => bif (!x133) then some (false) else obind (d_impl_in fu r1.fClasses 1 4) fun x138 => bif (!x138) then some (false) else bif (decide (((r1.fPairs.length : Int)) > 16)) then some (false) else d_impl_BoundsOk_J2 fu r1

def d_impl_namesOk_1 (fu : Nat) (q1 : Typ) (x2 : Typ) : Option (Bool) :=
  some (q1.fId == x2.fId)

def d_impl_namesOk_2 (fu : Nat) (q1 : Item) (x2 : Item) : Option (Bool) :=
  some (q1.fId == x2.fId)

def d_slices_IndexFunc_impl_Item_impl_Item_L1_B (fu : Nat)  (sv1 : List Item) (f5 : Item → Option Bool) (k1 : Int → Option (Int)) (x32 : Int) : Option (Int) :=
  bif (decide (x32 < ((sv1.length : Int)))) then obind (ix sv1 x32) fun x35 => obind (f5 x35) fun x37 => bif x37 then some (x32) else k1 (w64 (x32 + 1)) else some ((-1))
def d_slices_IndexFunc_impl_Item_impl_Item_L1 (fu : Nat)  (sv1 : List Item) (f5 : Item → Option Bool) : Nat → Int → Option (Int)
  | 0 => fun _ => none
  | n + 1 => d_slices_IndexFunc_impl_Item_impl_Item_L1_B fu sv1 f5 (d_slices_IndexFunc_impl_Item_impl_Item_L1 fu sv1 f5 n)
theorem d_slices_IndexFunc_impl_Item_impl_Item_L1_s (fu : Nat)  (sv1 : List Item) (f5 : Item → Option Bool) (n : Nat) : d_slices_IndexFunc_impl_Item_impl_Item_L1 fu sv1 f5 (n + 1) = d_slices_IndexFunc_impl_Item_impl_Item_L1_B fu sv1 f5 (d_slices_IndexFunc_impl_Item_impl_Item_L1 fu sv1 f5 n) := rfl

def d_slices_IndexFunc_impl_Item_impl_Item (fu : Nat) (sv1 : List Item) (f5 : Item → Option Bool) : Option (Int) :=
  d_slices_IndexFunc_impl_Item_impl_Item_L1 fu sv1 f5 fu 0

def d_slices_ContainsFunc_impl_Item_impl_Item (fu : Nat) (sv1 : List Item) (f5 : Item → Option Bool) : Option (Bool) :=
  obind (d_slices_IndexFunc_impl_Item_impl_Item fu sv1 f5) fun x14 => some (decide (x14 ≥ 0))

def d_impl_namesOk_3 (fu : Nat) (p1 : Pair) (x2 : Request) : Option (Bool) :=
  bif (decide (p1.fA ≥ x2.fClasses)) then some (true) else some (decide (p1.fB ≥ x2.fClasses))

def d_impl_namesOk_J1 (fu : Nat) (k4 : Int → Option (Bool)) (x178 : Int)  : Option (Bool) :=
  k4 (w64 (x178 + 1))

def d_impl_namesOk_L1_B (fu : Nat)  (r1 : Request) (k4 : Int → Option (Bool)) (x178 : Int) : Option (Bool) :=
  bif (decide (x178 < ((r1.fItems.length : Int)))) then obind (ix r1.fItems x178) fun x203 => bif (decide (x203.fClass ≥ r1.fClasses)) then some (false) else obind (sls r1.fItems 0 x178) fun x211 => obind (d_slices_ContainsFunc_impl_Item_impl_Item fu x211 (fun y216 => d_impl_namesOk_2 fu y216 x203)) fun x219 => bif x219 then some (false) else d_impl_namesOk_J1 fu k4 x178 else obind (d_impl_MasterOf fu r1) fun x224 => bif x224.2 then obind (d_slices_ContainsFunc_impl_Pair_impl_Pair fu r1.fPairs (fun y234 => d_impl_namesOk_3 fu y234 r1)) fun x237 => some (!x237) else some (false)
def d_impl_namesOk_L1 (fu : Nat)  (r1 : Request) : Nat → Int → Option (Bool)
  | 0 => fun _ => none
  | n + 1 => d_impl_namesOk_L1_B fu r1 (d_impl_namesOk_L1 fu r1 n)
theorem d_impl_namesOk_L1_s (fu : Nat)  (r1 : Request) (n : Nat) : d_impl_namesOk_L1 fu r1 (n + 1) = d_impl_namesOk_L1_B fu r1 (d_impl_namesOk_L1 fu r1 n) := rfl

def d_impl_namesOk_L2_B (fu : Nat)  (r1 : Request) (k1 : Int → Option (Bool)) (x63 : Int) : Option (Bool) :=
  bif (decide (x63 < ((r1.fTypes.length : Int)))) then obind (ix r1.fTypes x63) fun x66 => obind (sls r1.fTypes 0 x63) fun x73 => obind (d_slices_ContainsFunc_impl_Type_impl_Type fu x73 (fun y78 => d_impl_namesOk_1 fu y78 x66)) fun x81 => bif x81 then some (false) else k1 (w64 (x63 + 1)) else d_impl_namesOk_L1 fu r1 fu 0
def d_impl_namesOk_L2 (fu : Nat)  (r1 : Request) : Nat → Int → Option (Bool)
  | 0 => fun _ => none
  | n + 1 => d_impl_namesOk_L2_B fu r1 (d_impl_namesOk_L2 fu r1 n)
theorem d_impl_namesOk_L2_s (fu : Nat)  (r1 : Request) (n : Nat) : d_impl_namesOk_L2 fu r1 (n + 1) = d_impl_namesOk_L2_B fu r1 (d_impl_namesOk_L2 fu r1 n) := rfl

def d_impl_namesOk (fu : Nat) (r1 : Request) : Option (Bool) :=
  d_impl_namesOk_L2 fu r1 fu 0

def d_slices_Index_impl_Pair_impl_Pair_L1_B (fu : Nat)  (sv1 : List Pair) (v5 : Pair) (k1 : Int → Option (Int)) (x23 : Int) : Option (Int) :=
  bif (decide (x23 < ((sv1.length : Int)))) then obind (ix sv1 x23) fun x27 => bif (decide (v5 = x27)) then some (x23) else k1 (w64 (x23 + 1)) else some ((-1))
def d_slices_Index_impl_Pair_impl_Pair_L1 (fu : Nat)  (sv1 : List Pair) (v5 : Pair) : Nat → Int → Option (Int)
  | 0 => fun _ => none
  | n + 1 => d_slices_Index_impl_Pair_impl_Pair_L1_B fu sv1 v5 (d_slices_Index_impl_Pair_impl_Pair_L1 fu sv1 v5 n)
theorem d_slices_Index_impl_Pair_impl_Pair_L1_s (fu : Nat)  (sv1 : List Pair) (v5 : Pair) (n : Nat) : d_slices_Index_impl_Pair_impl_Pair_L1 fu sv1 v5 (n + 1) = d_slices_Index_impl_Pair_impl_Pair_L1_B fu sv1 v5 (d_slices_Index_impl_Pair_impl_Pair_L1 fu sv1 v5 n) := rfl

def d_slices_Index_impl_Pair_impl_Pair (fu : Nat) (sv1 : List Pair) (v5 : Pair) : Option (Int) :=
  d_slices_Index_impl_Pair_impl_Pair_L1 fu sv1 v5 fu 0

def d_slices_Contains_impl_Pair_impl_Pair (fu : Nat) (sv1 : List Pair) (v5 : Pair) : Option (Bool) :=
  obind (d_slices_Index_impl_Pair_impl_Pair fu sv1 v5) fun x9 => some (decide (x9 ≥ 0))

def d_impl_Beside (fu : Nat) (pairs1 : List Pair) (a5 : Int) (b6 : Int) : Option (Bool) :=
  obind (d_slices_Contains_impl_Pair_impl_Pair fu pairs1 ((⟨a5, b6⟩ : Pair))) fun x7 => some (x7)

def d_impl_TableOk_L1_B (fu : Nat) (k3 : Int → Option (Bool)) (pairs1 : List Pair) (classes5 : Int) (x99 : Int) (k4 : Int → Option (Bool)) (x131 : Int) : Option (Bool) :=
  bif (decide (x131 < classes5)) then obind (d_impl_Beside fu pairs1 x99 x131) fun x134 => obind (d_impl_Beside fu pairs1 x131 x99) fun x138 => bif (!(x134 == x138)) then some (false) else k4 (w64 (x131 + 1)) else k3 (w64 (x99 + 1))
def d_impl_TableOk_L1 (fu : Nat) (k3 : Int → Option (Bool)) (pairs1 : List Pair) (classes5 : Int) (x99 : Int) : Nat → Int → Option (Bool)
  | 0 => fun _ => none
  | n + 1 => d_impl_TableOk_L1_B fu k3 pairs1 classes5 x99 (d_impl_TableOk_L1 fu k3 pairs1 classes5 x99 n)
theorem d_impl_TableOk_L1_s (fu : Nat) (k3 : Int → Option (Bool)) (pairs1 : List Pair) (classes5 : Int) (x99 : Int) (n : Nat) : d_impl_TableOk_L1 fu k3 pairs1 classes5 x99 (n + 1) = d_impl_TableOk_L1_B fu k3 pairs1 classes5 x99 (d_impl_TableOk_L1 fu k3 pairs1 classes5 x99 n) := rfl

def d_impl_TableOk_L2_B (fu : Nat)  (pairs1 : List Pair) (classes5 : Int) (k3 : Int → Option (Bool)) (x99 : Int) : Option (Bool) :=
  bif (decide (x99 < classes5)) then obind (d_impl_Beside fu pairs1 x99 x99) fun x102 => bif (!x102) then some (false) else d_impl_TableOk_L1 fu k3 pairs1 classes5 x99 fu 0 else some (true)
def d_impl_TableOk_L2 (fu : Nat)  (pairs1 : List Pair) (classes5 : Int) : Nat → Int → Option (Bool)
  | 0 => fun _ => none
  | n + 1 => d_impl_TableOk_L2_B fu pairs1 classes5 (d_impl_TableOk_L2 fu pairs1 classes5 n)
theorem d_impl_TableOk_L2_s (fu : Nat)  (pairs1 : List Pair) (classes5 : Int) (n : Nat) : d_impl_TableOk_L2 fu pairs1 classes5 (n + 1) = d_impl_TableOk_L2_B fu pairs1 classes5 (d_impl_TableOk_L2 fu pairs1 classes5 n) := rfl

def d_impl_TableOk (fu : Nat) (pairs1 : List Pair) (classes5 : Int) : Option (Bool) :=
  obind (d_impl_in fu classes5 1 4) fun x6 => bif (!x6) then some (false) else d_impl_TableOk_L2 fu pairs1 classes5 fu 0

def d_slices_Sort_int_int (fu : Nat) (x1 : List Int) : Option (List Int) := sortI x1

def d_impl_Fits_J1 (fu : Nat) (x1 : Item) (t2 : Typ) (a39 : List Int) (b44 : List Int) : Option (Bool) :=
  obind (d_slices_Sort_int_int fu a39) fun x49 => obind (d_slices_Sort_int_int fu b44) fun x56 => obind (ix x49 0) fun x64 => obind (ix x56 0) fun x66 => bif (decide (x64 ≤ x66)) then obind (ix x49 1) fun x69 => obind (ix x56 1) fun x71 => bif (decide (x69 ≤ x71)) then obind (ix x49 2) fun x74 => obind (ix x56 2) fun x76 => bif (decide (x74 ≤ x76)) then some (decide (x1.fGram ≤ t2.fGram)) else some (false) else some (false) else some (false)

def d_impl_Fits (fu : Nat) (x1 : Item) (t2 : Typ) : Option (Bool) :=
  d_impl_Fits_J1 fu x1 t2 (([x1.fW, x1.fH, x1.fD] : List Int)) (([t2.fW, t2.fH, t2.fD] : List Int))

def d_impl_Class_1 (fu : Nat) (x1 : Item) (x2 : Typ) : Option (Bool) :=
  obind (d_impl_Fits fu x1 x2) fun x8 => some (!x8)

def d_impl_Class_2 (fu : Nat) (t1 : Typ) (x2 : Pallet) : Option (Bool) :=
  bif (decide (t1.fW > x2.fW)) then some (true) else bif (decide (t1.fD > x2.fD)) then some (true) else bif (decide (t1.fH > x2.fH)) then some (true) else some (decide ((w64 (t1.fTare + t1.fGram)) > x2.fGram))

def d_impl_Class (fu : Nat) (r1 : Request) : Option (Int) :=
  obind (d_impl_MasterOf fu r1) fun x17 => obind (d_impl_BoundsOk fu r1) fun x31 => bif (!x31) then some (2) else obind (d_impl_namesOk fu r1) fun x36 => bif (!x36) then some (3) else obind (d_impl_TableOk fu r1.fPairs r1.fClasses) fun x41 => bif (!x41) then some (4) else obind (d_slices_ContainsFunc_impl_Item_impl_Item fu r1.fItems (fun y46 => d_impl_Class_1 fu y46 x17.1)) fun x49 => bif x49 then some (5) else obind (d_slices_ContainsFunc_impl_Type_impl_Type fu r1.fTypes (fun y54 => d_impl_Class_2 fu y54 r1.fPallet)) fun x57 => bif x57 then some (6) else some (0)

theorem c_impl_BoundsOk_2 (fu : Nat) {w0 : World} (t1 : Typ)  {r : Bool}
    (h : d_impl_BoundsOk_2 fu t1 = some r) :
    Calls Tryz.prog 202 #[.agg (Flat.e (t1)).toArray] w0 fun e w => e = .returned (.bool (r)) ∧ Ext [] w0 w := by
  refine enter (vs := [_]) Tryz.func202 rfl Tryz.ntmps202 rfl fun a hK => ?_
  have hM := St.start w0
  unfold d_impl_BoundsOk_2 at h
  refine wp_seq ?_
  refine wp_region_lit ?_
  refine s_box (cs := [.int .i64 (t1.fId), .int .i64 (t1.fW), .int .i64 (t1.fH), .int .i64 (t1.fD), .int .i64 (t1.fTare), .int .i64 (t1.fGram), .int .i64 (t1.fCost)]) hM hK rfl rfl rfl rfl rfl rfl fun b2 w4 a hK hM hE hb3 => ?_
  refine s1 hK rfl rfl rfl rfl fun a hK => ?_
  refine wpList_nil (nm_then ?_)
  refine wp_seq ?_
  refine wp_region_lit ?_
  refine s_val hK rfl rfl rfl (r_ldB ta92 hM 0 hb3 0 hK rfl rfl rfl rfl rfl rfl) fun a hK => ?_
  obtain ⟨x5, hx6, h⟩ := obind_some h
  refine s_call hK Tryz.call203 rfl rfl rfl rfl rfl (c_impl_TypeOk fu (t1 : Typ)  hx6) fun e7 w8 hR => ?_
  obtain ⟨rfl, hE⟩ := hR
  refine ⟨_, rfl, fun a hK => ?_⟩
  have hM := hM.step hE
  iterate 2 (refine s1 hK rfl rfl rfl rfl fun a hK => ?_)
  refine wpList_nil (nm_then ?_)
  refine wp_ret ?_
  have h := Option.some.inj h
  subst h
  exact finR1 hK rfl (RV.tmp hK rfl) ⟨rfl, hM.ext⟩

theorem c_impl_ItemOk (fu : Nat) {w0 : World} (x1 : Item)  {r : Bool}
    (h : d_impl_ItemOk fu x1 = some r) :
    Calls Tryz.prog 204 #[.agg (Flat.e (x1)).toArray] w0 fun e w => e = .returned (.bool (r)) ∧ Ext [] w0 w := by
  refine enter (vs := [_]) Tryz.func204 rfl Tryz.ntmps204 rfl fun a hK => ?_
  have hM := St.start w0
  unfold d_impl_ItemOk at h
  refine wp_seq ?_
  refine wp_region_lit ?_
  refine s_box (cs := [.int .i64 (x1.fId), .int .i64 (x1.fW), .int .i64 (x1.fH), .int .i64 (x1.fD), .int .i64 (x1.fGram), .int .i64 (x1.fClass), .int .i64 (x1.fCount)]) hM hK rfl rfl rfl rfl rfl rfl fun b2 w4 a hK hM hE hb3 => ?_
  refine s1 hK rfl rfl rfl rfl fun a hK => ?_
  refine wpList_nil (nm_then ?_)
  refine wp_seq ?_
  refine wp_region_lit ?_
  refine s_val hK rfl rfl rfl (r_fa fa120_0 hK rfl rfl) fun a hK => ?_
  refine s_val hK rfl rfl rfl (r_ldb t13 hM 0 hb3 0 hK rfl rfl rfl rfl rfl) fun a hK => ?_
  obtain ⟨x5, hx6, h⟩ := obind_some h
  refine s_call hK Tryz.call99 rfl rfl rfl rfl rfl (c_impl_in fu _ _ _  hx6) fun e7 w8 hR => ?_
  obtain ⟨rfl, hE⟩ := hR
  refine ⟨_, rfl, fun a hK => ?_⟩
  have hM := hM.step hE
  refine s1 hK rfl rfl rfl rfl fun a hK => ?_
  refine bsplit (x5) (fun hb9 => ?_) (fun hb9 => ?_)
  · have h := bif_t hb9 h
    have hK := hK.re (d := 6) rfl (congrArg Value.bool hb9)
    refine s_val hK rfl rfl rfl (r_fa fa120_1 hK rfl rfl) fun a hK => ?_
    refine s_val hK rfl rfl rfl (r_ldb t13 hM 0 hb3 1 hK rfl rfl rfl rfl rfl) fun a hK => ?_
    obtain ⟨x10, hx11, h⟩ := obind_some h
    refine s_call hK Tryz.call224 rfl rfl rfl rfl rfl (c_impl_isSide fu _  hx11) fun e12 w13 hR => ?_
    obtain ⟨rfl, hE⟩ := hR
    refine ⟨_, rfl, fun a hK => ?_⟩
    have hM := hM.step hE
    iterate 2 (refine s1 hK rfl rfl rfl rfl fun a hK => ?_)
    refine bsplit (x10) (fun hb14 => ?_) (fun hb14 => ?_)
    · have h := bif_t hb14 h
      have hK := hK.re (d := 11) rfl (congrArg Value.bool hb14)
      refine s_val hK rfl rfl rfl (r_fa fa120_2 hK rfl rfl) fun a hK => ?_
      refine s_val hK rfl rfl rfl (r_ldb t13 hM 0 hb3 2 hK rfl rfl rfl rfl rfl) fun a hK => ?_
      obtain ⟨x15, hx16, h⟩ := obind_some h
      refine s_call hK Tryz.call224 rfl rfl rfl rfl rfl (c_impl_isSide fu _  hx16) fun e17 w18 hR => ?_
      obtain ⟨rfl, hE⟩ := hR
      refine ⟨_, rfl, fun a hK => ?_⟩
      have hM := hM.step hE
      iterate 2 (refine s1 hK rfl rfl rfl rfl fun a hK => ?_)
      refine bsplit (x15) (fun hb19 => ?_) (fun hb19 => ?_)
      · have h := bif_t hb19 h
        have hK := hK.re (d := 16) rfl (congrArg Value.bool hb19)
        refine s_val hK rfl rfl rfl (r_fa fa120_3 hK rfl rfl) fun a hK => ?_
        refine s_val hK rfl rfl rfl (r_ldb t13 hM 0 hb3 3 hK rfl rfl rfl rfl rfl) fun a hK => ?_
        obtain ⟨x20, hx21, h⟩ := obind_some h
        refine s_call hK Tryz.call224 rfl rfl rfl rfl rfl (c_impl_isSide fu _  hx21) fun e22 w23 hR => ?_
        obtain ⟨rfl, hE⟩ := hR
        refine ⟨_, rfl, fun a hK => ?_⟩
        have hM := hM.step hE
        iterate 2 (refine s1 hK rfl rfl rfl rfl fun a hK => ?_)
        refine bsplit (x20) (fun hb24 => ?_) (fun hb24 => ?_)
        · have h := bif_t hb24 h
          have hK := hK.re (d := 21) rfl (congrArg Value.bool hb24)
          refine s_val hK rfl rfl rfl (r_fa fa120_4 hK rfl rfl) fun a hK => ?_
          refine s_val hK rfl rfl rfl (r_ldb t13 hM 0 hb3 4 hK rfl rfl rfl rfl rfl) fun a hK => ?_
          obtain ⟨x25, hx26, h⟩ := obind_some h
          refine s_call hK Tryz.call99 rfl rfl rfl rfl rfl (c_impl_in fu _ _ _  hx26) fun e27 w28 hR => ?_
          obtain ⟨rfl, hE⟩ := hR
          refine ⟨_, rfl, fun a hK => ?_⟩
          have hM := hM.step hE
          iterate 2 (refine s1 hK rfl rfl rfl rfl fun a hK => ?_)
          refine bsplit (x25) (fun hb29 => ?_) (fun hb29 => ?_)
          · have h := bif_t hb29 h
            have hK := hK.re (d := 26) rfl (congrArg Value.bool hb29)
            refine s_val hK rfl rfl rfl (r_fa fa120_5 hK rfl rfl) fun a hK => ?_
            refine s_val hK rfl rfl rfl (r_ldb t13 hM 0 hb3 5 hK rfl rfl rfl rfl rfl) fun a hK => ?_
            obtain ⟨x30, hx31, h⟩ := obind_some h
            refine s_call hK Tryz.call99 rfl rfl rfl rfl rfl (c_impl_in fu _ _ _  hx31) fun e32 w33 hR => ?_
            obtain ⟨rfl, hE⟩ := hR
            refine ⟨_, rfl, fun a hK => ?_⟩
            have hM := hM.step hE
            iterate 2 (refine s1 hK rfl rfl rfl rfl fun a hK => ?_)
            refine bsplit (x30) (fun hb34 => ?_) (fun hb34 => ?_)
            · have h := bif_t hb34 h
              have hK := hK.re (d := 31) rfl (congrArg Value.bool hb34)
              refine s_val hK rfl rfl rfl (r_fa fa120_6 hK rfl rfl) fun a hK => ?_
              refine s_val hK rfl rfl rfl (r_ldb t13 hM 0 hb3 6 hK rfl rfl rfl rfl rfl) fun a hK => ?_
              obtain ⟨x35, hx36, h⟩ := obind_some h
              refine s_call hK Tryz.call99 rfl rfl rfl rfl rfl (c_impl_in fu _ _ _  hx36) fun e37 w38 hR => ?_
              obtain ⟨rfl, hE⟩ := hR
              refine ⟨_, rfl, fun a hK => ?_⟩
              have hM := hM.step hE
              iterate 2 (refine s1 hK rfl rfl rfl rfl fun a hK => ?_)
              have hK := hK.keep [2] rfl
              refine wpList_nil (nm_then ?_)
              refine wp_ret ?_
              have h := Option.some.inj h
              subst h
              exact finR1 hK rfl (RV.tmp hK rfl) ⟨rfl, hM.ext⟩
            · have h := bif_f hb34 h
              have hK := hK.re (d := 31) rfl (congrArg Value.bool hb34)
              refine sk hK rfl rfl rfl fun a hK => ?_
              refine sk hK rfl rfl rfl fun a hK => ?_
              refine sk hK rfl rfl rfl fun a hK => ?_
              iterate 2 (refine s1 hK rfl rfl rfl rfl fun a hK => ?_)
              have hK := hK.keep [2] rfl
              refine wpList_nil (nm_then ?_)
              refine wp_ret ?_
              have h := Option.some.inj h
              subst h
              exact finR1 hK rfl (RV.tmp hK rfl) ⟨rfl, hM.ext⟩
          · have h := bif_f hb29 h
            have hK := hK.re (d := 26) rfl (congrArg Value.bool hb29)
            refine sk hK rfl rfl rfl fun a hK => ?_
            refine sk hK rfl rfl rfl fun a hK => ?_
            refine sk hK rfl rfl rfl fun a hK => ?_
            iterate 2 (refine s1 hK rfl rfl rfl rfl fun a hK => ?_)
            refine sk hK rfl rfl rfl fun a hK => ?_
            refine sk hK rfl rfl rfl fun a hK => ?_
            refine sk hK rfl rfl rfl fun a hK => ?_
            iterate 2 (refine s1 hK rfl rfl rfl rfl fun a hK => ?_)
            have hK := hK.keep [2] rfl
            refine wpList_nil (nm_then ?_)
            refine wp_ret ?_
            have h := Option.some.inj h
            subst h
            exact finR1 hK rfl (RV.tmp hK rfl) ⟨rfl, hM.ext⟩
        · have h := bif_f hb24 h
          have hK := hK.re (d := 21) rfl (congrArg Value.bool hb24)
          refine sk hK rfl rfl rfl fun a hK => ?_
          refine sk hK rfl rfl rfl fun a hK => ?_
          refine sk hK rfl rfl rfl fun a hK => ?_
          iterate 2 (refine s1 hK rfl rfl rfl rfl fun a hK => ?_)
          refine sk hK rfl rfl rfl fun a hK => ?_
          refine sk hK rfl rfl rfl fun a hK => ?_
          refine sk hK rfl rfl rfl fun a hK => ?_
          iterate 2 (refine s1 hK rfl rfl rfl rfl fun a hK => ?_)
          refine sk hK rfl rfl rfl fun a hK => ?_
          refine sk hK rfl rfl rfl fun a hK => ?_
          refine sk hK rfl rfl rfl fun a hK => ?_
          iterate 2 (refine s1 hK rfl rfl rfl rfl fun a hK => ?_)
          have hK := hK.keep [2] rfl
          refine wpList_nil (nm_then ?_)
          refine wp_ret ?_
          have h := Option.some.inj h
          subst h
          exact finR1 hK rfl (RV.tmp hK rfl) ⟨rfl, hM.ext⟩
      · have h := bif_f hb19 h
        have hK := hK.re (d := 16) rfl (congrArg Value.bool hb19)
        refine sk hK rfl rfl rfl fun a hK => ?_
        refine sk hK rfl rfl rfl fun a hK => ?_
        refine sk hK rfl rfl rfl fun a hK => ?_
        iterate 2 (refine s1 hK rfl rfl rfl rfl fun a hK => ?_)
        refine sk hK rfl rfl rfl fun a hK => ?_
        refine sk hK rfl rfl rfl fun a hK => ?_
        refine sk hK rfl rfl rfl fun a hK => ?_
        iterate 2 (refine s1 hK rfl rfl rfl rfl fun a hK => ?_)
        refine sk hK rfl rfl rfl fun a hK => ?_
        refine sk hK rfl rfl rfl fun a hK => ?_
        refine sk hK rfl rfl rfl fun a hK => ?_
        iterate 2 (refine s1 hK rfl rfl rfl rfl fun a hK => ?_)
        refine sk hK rfl rfl rfl fun a hK => ?_
        refine sk hK rfl rfl rfl fun a hK => ?_
        refine sk hK rfl rfl rfl fun a hK => ?_
        iterate 2 (refine s1 hK rfl rfl rfl rfl fun a hK => ?_)
        have hK := hK.keep [2] rfl
        refine wpList_nil (nm_then ?_)
        refine wp_ret ?_
        have h := Option.some.inj h
        subst h
        exact finR1 hK rfl (RV.tmp hK rfl) ⟨rfl, hM.ext⟩
    · have h := bif_f hb14 h
      have hK := hK.re (d := 11) rfl (congrArg Value.bool hb14)
      refine sk hK rfl rfl rfl fun a hK => ?_
      refine sk hK rfl rfl rfl fun a hK => ?_
      refine sk hK rfl rfl rfl fun a hK => ?_
      iterate 2 (refine s1 hK rfl rfl rfl rfl fun a hK => ?_)
      refine sk hK rfl rfl rfl fun a hK => ?_
      refine sk hK rfl rfl rfl fun a hK => ?_
      refine sk hK rfl rfl rfl fun a hK => ?_
      iterate 2 (refine s1 hK rfl rfl rfl rfl fun a hK => ?_)
      refine sk hK rfl rfl rfl fun a hK => ?_
      refine sk hK rfl rfl rfl fun a hK => ?_
      refine sk hK rfl rfl rfl fun a hK => ?_
      iterate 2 (refine s1 hK rfl rfl rfl rfl fun a hK => ?_)
      refine sk hK rfl rfl rfl fun a hK => ?_
      refine sk hK rfl rfl rfl fun a hK => ?_
      refine sk hK rfl rfl rfl fun a hK => ?_
      iterate 2 (refine s1 hK rfl rfl rfl rfl fun a hK => ?_)
      refine sk hK rfl rfl rfl fun a hK => ?_
      refine sk hK rfl rfl rfl fun a hK => ?_
      refine sk hK rfl rfl rfl fun a hK => ?_
      iterate 2 (refine s1 hK rfl rfl rfl rfl fun a hK => ?_)
      have hK := hK.keep [2] rfl
      refine wpList_nil (nm_then ?_)
      refine wp_ret ?_
      have h := Option.some.inj h
      subst h
      exact finR1 hK rfl (RV.tmp hK rfl) ⟨rfl, hM.ext⟩
  · have h := bif_f hb9 h
    have hK := hK.re (d := 6) rfl (congrArg Value.bool hb9)
    refine sk hK rfl rfl rfl fun a hK => ?_
    refine sk hK rfl rfl rfl fun a hK => ?_
    refine sk hK rfl rfl rfl fun a hK => ?_
    iterate 2 (refine s1 hK rfl rfl rfl rfl fun a hK => ?_)
    refine sk hK rfl rfl rfl fun a hK => ?_
    refine sk hK rfl rfl rfl fun a hK => ?_
    refine sk hK rfl rfl rfl fun a hK => ?_
    iterate 2 (refine s1 hK rfl rfl rfl rfl fun a hK => ?_)
    refine sk hK rfl rfl rfl fun a hK => ?_
    refine sk hK rfl rfl rfl fun a hK => ?_
    refine sk hK rfl rfl rfl fun a hK => ?_
    iterate 2 (refine s1 hK rfl rfl rfl rfl fun a hK => ?_)
    refine sk hK rfl rfl rfl fun a hK => ?_
    refine sk hK rfl rfl rfl fun a hK => ?_
    refine sk hK rfl rfl rfl fun a hK => ?_
    iterate 2 (refine s1 hK rfl rfl rfl rfl fun a hK => ?_)
    refine sk hK rfl rfl rfl fun a hK => ?_
    refine sk hK rfl rfl rfl fun a hK => ?_
    refine sk hK rfl rfl rfl fun a hK => ?_
    iterate 2 (refine s1 hK rfl rfl rfl rfl fun a hK => ?_)
    refine sk hK rfl rfl rfl fun a hK => ?_
    refine sk hK rfl rfl rfl fun a hK => ?_
    refine sk hK rfl rfl rfl fun a hK => ?_
    iterate 2 (refine s1 hK rfl rfl rfl rfl fun a hK => ?_)
    have hK := hK.keep [2] rfl
    refine wpList_nil (nm_then ?_)
    refine wp_ret ?_
    have h := Option.some.inj h
    subst h
    exact finR1 hK rfl (RV.tmp hK rfl) ⟨rfl, hM.ext⟩

theorem c_impl_BoundsOk (fu : Nat) {w0 : World} (r1 : Request) {cs2 : List Value} {F3 : List Nat} (hp4 : rd w0 F3 cs2 r1) {r : Bool}
    (h : d_impl_BoundsOk fu r1 = some r) :
    Calls Tryz.prog 179 #[.agg cs2.toArray] w0 fun e w => e = .returned (.bool (r)) ∧ Ext [] w0 w := by
  refine enter (vs := [_]) Tryz.func179 rfl Tryz.ntmps179 rfl fun a hK => ?_
  have hM := St.start w0
  obtain ⟨v5, F6, v7, F8, v9, F10, rfl, rfl, hf11, hf12, hf13⟩ := hp4
  unfold d_impl_BoundsOk at h
  refine wp_seq ?_
  refine wp_region_lit ?_
  refine s_box (cs := [.int .i64 (r1.fWay), .int .i64 (r1.fPallet.fW), .int .i64 (r1.fPallet.fD), .int .i64 (r1.fPallet.fH), .int .i64 (r1.fPallet.fGram), .int .i64 (r1.fClasses), v5, v7, .int .i64 (r1.fMaster), v9]) hM hK rfl rfl rfl rfl rfl rfl fun b14 w16 a hK hM hE hb15 => ?_
  refine s1 hK rfl rfl rfl rfl fun a hK => ?_
  refine wpList_nil (nm_then ?_)
  refine c_cut (fun a w => K 70 [(1, .pointer (some (⟨b14, 0, none⟩ : Addr)))] a ∧ St [] w0 w [([b14], w16)] ∧ d_impl_BoundsOk_J2 fu r1 = some r) ?_ ?_
  · rintro a w33 ⟨hK, hM, h⟩
    unfold d_impl_BoundsOk_J2 at h
    refine wp_seq ?_
    refine wp_seq ?_
    refine wp_region_lit ?_
    refine s_val hK rfl rfl rfl (r_fa fa40_3 hK rfl rfl) fun a hK => ?_
    refine s_val hK rfl rfl rfl (r_ldb t136 hM 0 hb15 6 hK rfl rfl rfl rfl rfl) fun a hK => ?_
    obtain ⟨x37, hx38, h⟩ := obind_some h
    refine s_call hK Tryz.call200 rfl rfl rfl rfl rfl (c_slices_ContainsFunc_impl_Pair_impl_Pair fu _ _ (Enc.rd_agr hf11 (hM.a00 (Enc.rd_lt hf11))) ⟨201, [], rfl, Tryz.call201, fun w y34 v35 r hE hv36 hx => by subst hv36; have hM := hM.step hE; exact c_impl_BoundsOk_1 fu _  hx⟩ hx38) fun e39 w40 hR => ?_
    obtain ⟨rfl, hE⟩ := hR
    refine ⟨_, rfl, fun a hK => ?_⟩
    have hM := hM.step hE
    refine wpList_nil (nm_then ?_)
    refine c_cond (b := x37) hK rfl (fun hb41 => ?_) (fun hb41 => ?_)
    · have h := bif_t hb41 h
      refine wp_seq ?_
      refine wp_region_lit ?_
      refine s1 hK rfl rfl rfl rfl fun a hK => ?_
      refine wpList_nil (nm_then ?_)
      refine wp_ret (rt_then ?_)
      have h := Option.some.inj h
      subst h
      exact finR1 hK rfl (RV.tmp hK rfl) ⟨rfl, hM.ext⟩
    · have h := bif_f hb41 h
      refine wp_skip (nm_then ?_)
      refine c_cut (fun a w => K 70 [(1, .pointer (some (⟨b14, 0, none⟩ : Addr)))] a ∧ St [] w0 w [([b14], w16)] ∧ d_impl_BoundsOk_J1 fu r1 = some r) ?_ ?_
      · rintro a w61 ⟨hK, hM, h⟩
        unfold d_impl_BoundsOk_J1 at h
        refine wp_seq ?_
        refine wp_region_lit ?_
        refine s1 hK rfl rfl rfl rfl fun a hK => ?_
        refine wpList_nil (nm_then ?_)
        refine wp_seq ?_
        refine wp_seq ?_
        refine wp_region_lit ?_
        refine s_val hK rfl rfl rfl (r_fa fa40_6 hK rfl rfl) fun a hK => ?_
        refine s_val hK rfl rfl rfl (r_ldb t138 hM 0 hb15 9 hK rfl rfl rfl rfl rfl) fun a hK => ?_
        refine s_val hK rfl rfl rfl (r_len (α := Item) hf13 hK Tryz.underlying38 rfl rfl) fun a hK => ?_
        refine s1 hK rfl rfl rfl rfl fun a hK => ?_
        refine wpList_nil (nm_then ?_)
        refine wp_block ?_
        refine c_loop (fun n a w => ∃ (units93 : Int) (x94 : Int), K 70 [(3, .int .i64 (units93)), (54, v9), (55, .int .i64 ((r1.fItems.length : Int))), (56, .int .i64 (x94))] a ∧ St [] w0 w [] ∧ d_impl_BoundsOk_L1 fu r1 n units93 x94 = some r) ?_ ?_ fu _ _ ?_
        · rintro a w ⟨_, _, _, _, h⟩
          cases (show none = some _ from h)
        · rintro m95 a w92 ⟨units93, x94, hK, hM, h⟩
          rw [d_impl_BoundsOk_L1_s] at h
          unfold d_impl_BoundsOk_L1_B at h
          refine wp_seq ?_
          refine wp_region_lit ?_
          refine s1 hK rfl rfl rfl rfl fun a hK => ?_
          refine wpList_nil (nm_then ?_)
          refine wp_seq ?_
          refine c_cond (b := decide (x94 < ((r1.fItems.length : Int)))) hK rfl (fun hb96 => ?_) (fun hb96 => ?_)
          · have h := bif_t hb96 h
            refine wp_skip (nm_then ?_)
            refine wp_seq ?_
            refine wp_block ?_
            refine wp_seq ?_
            refine wp_region_lit ?_
            obtain ⟨x97, hx98, h⟩ := obind_some h
            refine s_val hK rfl rfl rfl (r_ixa hf13 hx98 hK ts38 rfl rfl rfl) fun a hK => ?_
            refine s_val hK rfl rfl rfl (r_lde hf13 (hM.a00 (Enc.rd_lt hf13)) hx98 ta120 hK rfl rfl) fun a hK => ?_
            refine s_alloc (cs := [.int .i64 (0), .int .i64 (0), .int .i64 (0), .int .i64 (0), .int .i64 (0), .int .i64 (0), .int .i64 (0)]) hM hK Tryz.zeroValue120 rfl rfl rfl rfl rfl fun b99 w101 a hK hM hE hb100 => ?_
            refine s_stb (cs' := [.int .i64 (x97.fId), .int .i64 (x97.fW), .int .i64 (x97.fH), .int .i64 (x97.fD), .int .i64 (x97.fGram), .int .i64 (x97.fClass), .int .i64 (x97.fCount)]) Tryz.sizeOf120 hM 0 hb100 0 hK rfl rfl rfl rfl rfl rfl rfl rfl rfl rfl rfl fun w102 a hK hE hM hb103 => ?_
            refine wpList_nil (nm_then ?_)
            refine wp_seq ?_
            refine wp_seq ?_
            refine wp_region_lit ?_
            refine s_val hK rfl rfl rfl (r_ldB ta120 hM 0 hb103 0 hK rfl rfl rfl rfl rfl rfl) fun a hK => ?_
            obtain ⟨x104, hx105, h⟩ := obind_some h
            refine s_call hK Tryz.call204 rfl rfl rfl rfl rfl (c_impl_ItemOk fu (x97 : Item)  hx105) fun e106 w107 hR => ?_
            obtain ⟨rfl, hE⟩ := hR
            refine ⟨_, rfl, fun a hK => ?_⟩
            have hM := hM.step hE
            refine s1 hK rfl rfl rfl rfl fun a hK => ?_
            refine wpList_nil (nm_then ?_)
            refine c_cond (b := !x104) hK rfl (fun hb108 => ?_) (fun hb108 => ?_)
            · have h := bif_t hb108 h
              refine wp_seq ?_
              refine wp_region_lit ?_
              refine s1 hK rfl rfl rfl rfl fun a hK => ?_
              refine wpList_nil (nm_then ?_)
              refine wp_ret (rt_then (rt_block (rt_then (rt_then (rt_block (rt_then ?_))))))
              have h := Option.some.inj h
              subst h
              exact finR1 hK rfl (RV.tmp hK rfl) ⟨rfl, hM.ext⟩
            · have h := bif_f hb108 h
              refine wp_skip (nm_then ?_)
              refine wp_region_lit ?_
              refine s1 hK rfl rfl rfl rfl fun a hK => ?_
              refine s_val hK rfl rfl rfl (r_fa fa120_6 hK rfl rfl) fun a hK => ?_
              refine s_val hK rfl rfl rfl (r_ldb t13 hM 0 hb103 6 hK rfl rfl rfl rfl rfl) fun a hK => ?_
              iterate 2 (refine s1 hK rfl rfl rfl rfl fun a hK => ?_)
              refine wpList_nil (nm_block (nm_then ?_))
              refine wp_region_lit ?_
              iterate 2 (refine s1 hK rfl rfl rfl rfl fun a hK => ?_)
              refine wpList_nil (nm_then ?_)
              exact ⟨w64 (units93 + x97.fCount), w64 (x94 + 1), hK.keep [3, 54, 55, 56] rfl, hM.sel [] rfl (by decide), h⟩
          · have h := bif_f hb96 h
            refine wp_exit (ex_then (ex_then (ex_same (nm_then ?_))))
            refine wp_seq ?_
            refine wp_region_lit ?_
            iterate 3 (refine s1 hK rfl rfl rfl rfl fun a hK => ?_)
            refine wpList_nil (nm_then ?_)
            refine wp_ret ?_
            have h := Option.some.inj h
            subst h
            exact finR1 hK rfl (RV.tmp hK rfl) ⟨rfl, hM.ext⟩
        · exact ⟨0, 0, hK.keep [3, 54, 55, 56] rfl, hM.sel [] rfl (by decide), h⟩
      · refine wp_seq ?_
        refine wp_region_lit ?_
        refine s_val hK rfl rfl rfl (r_fa fa40_4 hK rfl rfl) fun a hK => ?_
        refine s_val hK rfl rfl rfl (r_ldb t137 hM 0 hb15 7 hK rfl rfl rfl rfl rfl) fun a hK => ?_
        refine s_val hK rfl rfl rfl (r_len (α := Typ) hf12 hK Tryz.underlying37 rfl rfl) fun a hK => ?_
        obtain ⟨x109, hx110, h⟩ := obind_some h
        refine s_call hK Tryz.call99 rfl rfl rfl rfl rfl (c_impl_in fu _ _ _  hx110) fun e111 w112 hR => ?_
        obtain ⟨rfl, hE⟩ := hR
        refine ⟨_, rfl, fun a hK => ?_⟩
        have hM := hM.step hE
        iterate 2 (refine s1 hK rfl rfl rfl rfl fun a hK => ?_)
        refine bsplit (!x109) (fun hb113 => ?_) (fun hb113 => ?_)
        · have h := bif_t hb113 h
          have hK := hK.re (d := 36) rfl (congrArg Value.bool hb113)
          refine sk hK rfl rfl rfl fun a hK => ?_
          refine sk hK rfl rfl rfl fun a hK => ?_
          refine sk hK rfl rfl rfl fun a hK => ?_
          iterate 2 (refine s1 hK rfl rfl rfl rfl fun a hK => ?_)
          refine sk hK rfl rfl rfl fun a hK => ?_
          refine sk hK rfl rfl rfl fun a hK => ?_
          refine sk hK rfl rfl rfl fun a hK => ?_
          refine sk hK rfl rfl rfl fun a hK => ?_
          iterate 2 (refine s1 hK rfl rfl rfl rfl fun a hK => ?_)
          refine sk hK rfl rfl rfl fun a hK => ?_
          refine sk hK rfl rfl rfl fun a hK => ?_
          refine sk hK rfl rfl rfl fun a hK => ?_
          refine sk hK rfl rfl rfl fun a hK => ?_
          refine s1 hK rfl rfl rfl rfl fun a hK => ?_
          have hK := hK.keep [1, 52] rfl
          refine wpList_nil (nm_then ?_)
          refine wp_cond_true (hK.ev rfl) ?_
          refine wp_seq ?_
          refine wp_region_lit ?_
          refine s1 hK rfl rfl rfl rfl fun a hK => ?_
          refine wpList_nil (nm_then ?_)
          refine wp_ret (rt_then ?_)
          have h := Option.some.inj h
          subst h
          exact finR1 hK rfl (RV.tmp hK rfl) ⟨rfl, hM.ext⟩
        · have h := bif_f hb113 h
          have hK := hK.re (d := 36) rfl (congrArg Value.bool hb113)
          refine s_val hK rfl rfl rfl (r_fa fa40_4 hK rfl rfl) fun a hK => ?_
          refine s_val hK rfl rfl rfl (r_ldb t137 hM 0 hb15 7 hK rfl rfl rfl rfl rfl) fun a hK => ?_
          obtain ⟨x117, hx118, h⟩ := obind_some h
          refine s_call hK Tryz.call184 rfl rfl rfl rfl rfl (c_slices_ContainsFunc_impl_Type_impl_Type fu _ _ (Enc.rd_agr hf12 (hM.a00 (Enc.rd_lt hf12))) ⟨202, [], rfl, Tryz.call202, fun w y114 v115 r hE hv116 hx => by subst hv116; have hM := hM.step hE; exact c_impl_BoundsOk_2 fu _  hx⟩ hx118) fun e119 w120 hR => ?_
          obtain ⟨rfl, hE⟩ := hR
          refine ⟨_, rfl, fun a hK => ?_⟩
          have hM := hM.step hE
          iterate 2 (refine s1 hK rfl rfl rfl rfl fun a hK => ?_)
          refine bsplit (x117) (fun hb121 => ?_) (fun hb121 => ?_)
          · have h := bif_t hb121 h
            have hK := hK.re (d := 41) rfl (congrArg Value.bool hb121)
            refine sk hK rfl rfl rfl fun a hK => ?_
            refine sk hK rfl rfl rfl fun a hK => ?_
            refine sk hK rfl rfl rfl fun a hK => ?_
            refine sk hK rfl rfl rfl fun a hK => ?_
            iterate 2 (refine s1 hK rfl rfl rfl rfl fun a hK => ?_)
            refine sk hK rfl rfl rfl fun a hK => ?_
            refine sk hK rfl rfl rfl fun a hK => ?_
            refine sk hK rfl rfl rfl fun a hK => ?_
            refine sk hK rfl rfl rfl fun a hK => ?_
            refine s1 hK rfl rfl rfl rfl fun a hK => ?_
            have hK := hK.keep [1, 52] rfl
            refine wpList_nil (nm_then ?_)
            refine wp_cond_true (hK.ev rfl) ?_
            refine wp_seq ?_
            refine wp_region_lit ?_
            refine s1 hK rfl rfl rfl rfl fun a hK => ?_
            refine wpList_nil (nm_then ?_)
            refine wp_ret (rt_then ?_)
            have h := Option.some.inj h
            subst h
            exact finR1 hK rfl (RV.tmp hK rfl) ⟨rfl, hM.ext⟩
          · have h := bif_f hb121 h
            have hK := hK.re (d := 41) rfl (congrArg Value.bool hb121)
            refine s_val hK rfl rfl rfl (r_fa fa40_5 hK rfl rfl) fun a hK => ?_
            refine s_val hK rfl rfl rfl (r_ldb t13 hM 0 hb15 8 hK rfl rfl rfl rfl rfl) fun a hK => ?_
            obtain ⟨x122, hx123, h⟩ := obind_some h
            refine s_call hK Tryz.call99 rfl rfl rfl rfl rfl (c_impl_in fu _ _ _  hx123) fun e124 w125 hR => ?_
            obtain ⟨rfl, hE⟩ := hR
            refine ⟨_, rfl, fun a hK => ?_⟩
            have hM := hM.step hE
            iterate 3 (refine s1 hK rfl rfl rfl rfl fun a hK => ?_)
            refine bsplit (!x122) (fun hb126 => ?_) (fun hb126 => ?_)
            · have h := bif_t hb126 h
              have hK := hK.re (d := 47) rfl (congrArg Value.bool hb126)
              refine sk hK rfl rfl rfl fun a hK => ?_
              refine sk hK rfl rfl rfl fun a hK => ?_
              refine sk hK rfl rfl rfl fun a hK => ?_
              refine sk hK rfl rfl rfl fun a hK => ?_
              refine s1 hK rfl rfl rfl rfl fun a hK => ?_
              have hK := hK.keep [1, 52] rfl
              refine wpList_nil (nm_then ?_)
              refine wp_cond_true (hK.ev rfl) ?_
              refine wp_seq ?_
              refine wp_region_lit ?_
              refine s1 hK rfl rfl rfl rfl fun a hK => ?_
              refine wpList_nil (nm_then ?_)
              refine wp_ret (rt_then ?_)
              have h := Option.some.inj h
              subst h
              exact finR1 hK rfl (RV.tmp hK rfl) ⟨rfl, hM.ext⟩
            · have h := bif_f hb126 h
              have hK := hK.re (d := 47) rfl (congrArg Value.bool hb126)
              refine s_val hK rfl rfl rfl (r_fa fa40_6 hK rfl rfl) fun a hK => ?_
              refine s_val hK rfl rfl rfl (r_ldb t138 hM 0 hb15 9 hK rfl rfl rfl rfl rfl) fun a hK => ?_
              refine s_val hK rfl rfl rfl (r_len (α := Item) hf13 hK Tryz.underlying38 rfl rfl) fun a hK => ?_
              iterate 2 (refine s1 hK rfl rfl rfl rfl fun a hK => ?_)
              have hK := hK.keep [1, 52] rfl
              refine wpList_nil (nm_then ?_)
              refine c_cond (b := decide (((r1.fItems.length : Int)) > 8)) hK rfl (fun hb127 => ?_) (fun hb127 => ?_)
              · have h := bif_t hb127 h
                refine wp_seq ?_
                refine wp_region_lit ?_
                refine s1 hK rfl rfl rfl rfl fun a hK => ?_
                refine wpList_nil (nm_then ?_)
                refine wp_ret (rt_then ?_)
                have h := Option.some.inj h
                subst h
                exact finR1 hK rfl (RV.tmp hK rfl) ⟨rfl, hM.ext⟩
              · have h := bif_f hb127 h
                refine wp_skip (nm_then ?_)
                exact ⟨hK.keep [1] rfl, hM.sel [0] rfl (by decide), h⟩
  · refine wp_seq ?_
    refine wp_region_lit ?_
    refine s_val hK rfl rfl rfl (r_fa fa40_0 hK rfl rfl) fun a hK => ?_
    refine s_val hK rfl rfl rfl (r_ldb t13 hM 0 hb15 0 hK rfl rfl rfl rfl rfl) fun a hK => ?_
    obtain ⟨x128, hx129, h⟩ := obind_some h
    refine s_call hK Tryz.call99 rfl rfl rfl rfl rfl (c_impl_in fu _ _ _  hx129) fun e130 w131 hR => ?_
    obtain ⟨rfl, hE⟩ := hR
    refine ⟨_, rfl, fun a hK => ?_⟩
    have hM := hM.step hE
    iterate 2 (refine s1 hK rfl rfl rfl rfl fun a hK => ?_)
    refine bsplit (!x128) (fun hb132 => ?_) (fun hb132 => ?_)
    · have h := bif_t hb132 h
      have hK := hK.re (d := 10) rfl (congrArg Value.bool hb132)
      refine sk hK rfl rfl rfl fun a hK => ?_
      refine sk hK rfl rfl rfl fun a hK => ?_
      refine sk hK rfl rfl rfl fun a hK => ?_
      refine sk hK rfl rfl rfl fun a hK => ?_
      iterate 2 (refine s1 hK rfl rfl rfl rfl fun a hK => ?_)
      refine sk hK rfl rfl rfl fun a hK => ?_
      refine sk hK rfl rfl rfl fun a hK => ?_
      refine sk hK rfl rfl rfl fun a hK => ?_
      refine sk hK rfl rfl rfl fun a hK => ?_
      iterate 2 (refine s1 hK rfl rfl rfl rfl fun a hK => ?_)
      refine sk hK rfl rfl rfl fun a hK => ?_
      refine sk hK rfl rfl rfl fun a hK => ?_
      refine sk hK rfl rfl rfl fun a hK => ?_
      refine sk hK rfl rfl rfl fun a hK => ?_
      refine s1 hK rfl rfl rfl rfl fun a hK => ?_
      refine wpList_nil (nm_then ?_)
      refine wp_cond_true (hK.ev rfl) ?_
      refine wp_seq ?_
      refine wp_region_lit ?_
      refine s1 hK rfl rfl rfl rfl fun a hK => ?_
      have hK := hK.keep [2] rfl
      refine wpList_nil (nm_then ?_)
      refine wp_ret (rt_then ?_)
      have h := Option.some.inj h
      subst h
      exact finR1 hK rfl (RV.tmp hK rfl) ⟨rfl, hM.ext⟩
    · have h := bif_f hb132 h
      have hK := hK.re (d := 10) rfl (congrArg Value.bool hb132)
      refine s_val hK rfl rfl rfl (r_fa fa40_1 hK rfl rfl) fun a hK => ?_
      refine s_val hK rfl rfl rfl (r_ldB ta35 hM 0 hb15 1 hK rfl rfl rfl rfl rfl rfl) fun a hK => ?_
      obtain ⟨x133, hx134, h⟩ := obind_some h
      refine s_call hK Tryz.call199 rfl rfl rfl rfl rfl (c_impl_PalletOk fu (r1.fPallet : Pallet)  hx134) fun e135 w136 hR => ?_
      obtain ⟨rfl, hE⟩ := hR
      refine ⟨_, rfl, fun a hK => ?_⟩
      have hM := hM.step hE
      iterate 3 (refine s1 hK rfl rfl rfl rfl fun a hK => ?_)
      refine bsplit (!x133) (fun hb137 => ?_) (fun hb137 => ?_)
      · have h := bif_t hb137 h
        have hK := hK.re (d := 16) rfl (congrArg Value.bool hb137)
        refine sk hK rfl rfl rfl fun a hK => ?_
        refine sk hK rfl rfl rfl fun a hK => ?_
        refine sk hK rfl rfl rfl fun a hK => ?_
        refine sk hK rfl rfl rfl fun a hK => ?_
        iterate 2 (refine s1 hK rfl rfl rfl rfl fun a hK => ?_)
        refine sk hK rfl rfl rfl fun a hK => ?_
        refine sk hK rfl rfl rfl fun a hK => ?_
        refine sk hK rfl rfl rfl fun a hK => ?_
        refine sk hK rfl rfl rfl fun a hK => ?_
        refine s1 hK rfl rfl rfl rfl fun a hK => ?_
        refine wpList_nil (nm_then ?_)
        refine wp_cond_true (hK.ev rfl) ?_
        refine wp_seq ?_
        refine wp_region_lit ?_
        refine s1 hK rfl rfl rfl rfl fun a hK => ?_
        have hK := hK.keep [2] rfl
        refine wpList_nil (nm_then ?_)
        refine wp_ret (rt_then ?_)
        have h := Option.some.inj h
        subst h
        exact finR1 hK rfl (RV.tmp hK rfl) ⟨rfl, hM.ext⟩
      · have h := bif_f hb137 h
        have hK := hK.re (d := 16) rfl (congrArg Value.bool hb137)
        refine s_val hK rfl rfl rfl (r_fa fa40_2 hK rfl rfl) fun a hK => ?_
        refine s_val hK rfl rfl rfl (r_ldb t13 hM 0 hb15 5 hK rfl rfl rfl rfl rfl) fun a hK => ?_
        obtain ⟨x138, hx139, h⟩ := obind_some h
        refine s_call hK Tryz.call99 rfl rfl rfl rfl rfl (c_impl_in fu _ _ _  hx139) fun e140 w141 hR => ?_
        obtain ⟨rfl, hE⟩ := hR
        refine ⟨_, rfl, fun a hK => ?_⟩
        have hM := hM.step hE
        iterate 3 (refine s1 hK rfl rfl rfl rfl fun a hK => ?_)
        refine bsplit (!x138) (fun hb142 => ?_) (fun hb142 => ?_)
        · have h := bif_t hb142 h
          have hK := hK.re (d := 22) rfl (congrArg Value.bool hb142)
          refine sk hK rfl rfl rfl fun a hK => ?_
          refine sk hK rfl rfl rfl fun a hK => ?_
          refine sk hK rfl rfl rfl fun a hK => ?_
          refine sk hK rfl rfl rfl fun a hK => ?_
          refine s1 hK rfl rfl rfl rfl fun a hK => ?_
          refine wpList_nil (nm_then ?_)
          refine wp_cond_true (hK.ev rfl) ?_
          refine wp_seq ?_
          refine wp_region_lit ?_
          refine s1 hK rfl rfl rfl rfl fun a hK => ?_
          have hK := hK.keep [2] rfl
          refine wpList_nil (nm_then ?_)
          refine wp_ret (rt_then ?_)
          have h := Option.some.inj h
          subst h
          exact finR1 hK rfl (RV.tmp hK rfl) ⟨rfl, hM.ext⟩
        · have h := bif_f hb142 h
          have hK := hK.re (d := 22) rfl (congrArg Value.bool hb142)
          refine s_val hK rfl rfl rfl (r_fa fa40_3 hK rfl rfl) fun a hK => ?_
          refine s_val hK rfl rfl rfl (r_ldb t136 hM 0 hb15 6 hK rfl rfl rfl rfl rfl) fun a hK => ?_
          refine s_val hK rfl rfl rfl (r_len (α := Pair) hf11 hK Tryz.underlying36 rfl rfl) fun a hK => ?_
          iterate 2 (refine s1 hK rfl rfl rfl rfl fun a hK => ?_)
          refine wpList_nil (nm_then ?_)
          refine c_cond (b := decide (((r1.fPairs.length : Int)) > 16)) hK rfl (fun hb143 => ?_) (fun hb143 => ?_)
          · have h := bif_t hb143 h
            refine wp_seq ?_
            refine wp_region_lit ?_
            refine s1 hK rfl rfl rfl rfl fun a hK => ?_
            have hK := hK.keep [2] rfl
            refine wpList_nil (nm_then ?_)
            refine wp_ret (rt_then ?_)
            have h := Option.some.inj h
            subst h
            exact finR1 hK rfl (RV.tmp hK rfl) ⟨rfl, hM.ext⟩
          · have h := bif_f hb143 h
            refine wp_skip (nm_then ?_)
            exact ⟨hK.keep [1] rfl, hM.sel [0] rfl (by decide), h⟩

theorem c_impl_namesOk_1 (fu : Nat) {w0 : World} (q1 : Typ) (x2 : Typ) {b3 : Nat} (hp4 : bx w0 b3 [.int .i64 (x2.fId), .int .i64 (x2.fW), .int .i64 (x2.fH), .int .i64 (x2.fD), .int .i64 (x2.fTare), .int .i64 (x2.fGram), .int .i64 (x2.fCost)] 92) {r : Bool}
    (h : d_impl_namesOk_1 fu q1 x2 = some r) :
    Calls Tryz.prog 205 #[.agg (Flat.e (q1)).toArray, .pointer (some (⟨b3, 0, none⟩ : Addr))] w0 fun e w => e = .returned (.bool (r)) ∧ Ext [] w0 w := by
  refine enter (vs := [_, _]) Tryz.func205 rfl Tryz.ntmps205 rfl fun a hK => ?_
  have hM := St.start w0
  unfold d_impl_namesOk_1 at h
  refine wp_seq ?_
  refine wp_region_lit ?_
  refine s_box (cs := [.int .i64 (q1.fId), .int .i64 (q1.fW), .int .i64 (q1.fH), .int .i64 (q1.fD), .int .i64 (q1.fTare), .int .i64 (q1.fGram), .int .i64 (q1.fCost)]) hM hK rfl rfl rfl rfl rfl rfl fun b5 w7 a hK hM hE hb6 => ?_
  refine s1 hK rfl rfl rfl rfl fun a hK => ?_
  refine wpList_nil (nm_then ?_)
  refine wp_seq ?_
  refine wp_region_lit ?_
  refine s_val hK rfl rfl rfl (r_fa fa92_0 hK rfl rfl) fun a hK => ?_
  refine s_val hK rfl rfl rfl (r_ldb t13 hM 0 hb6 0 hK rfl rfl rfl rfl rfl) fun a hK => ?_
  refine s_val hK rfl rfl rfl (r_fa fa92_0 hK rfl rfl) fun a hK => ?_
  refine s_val hK rfl rfl rfl (r_ld1 t13 (r := []) (hp4.at (hM.a00 hp4.lt1) 0 1 rfl rfl rfl) hK rfl rfl) fun a hK => ?_
  iterate 2 (refine s1 hK rfl rfl rfl rfl fun a hK => ?_)
  refine wpList_nil (nm_then ?_)
  refine wp_ret ?_
  have h := Option.some.inj h
  subst h
  exact finR1 hK rfl (RV.tmp hK rfl) ⟨rfl, hM.ext⟩

theorem c_impl_namesOk_2 (fu : Nat) {w0 : World} (q1 : Item) (x2 : Item) {b3 : Nat} (hp4 : bx w0 b3 [.int .i64 (x2.fId), .int .i64 (x2.fW), .int .i64 (x2.fH), .int .i64 (x2.fD), .int .i64 (x2.fGram), .int .i64 (x2.fClass), .int .i64 (x2.fCount)] 120) {r : Bool}
    (h : d_impl_namesOk_2 fu q1 x2 = some r) :
    Calls Tryz.prog 206 #[.agg (Flat.e (q1)).toArray, .pointer (some (⟨b3, 0, none⟩ : Addr))] w0 fun e w => e = .returned (.bool (r)) ∧ Ext [] w0 w := by
  refine enter (vs := [_, _]) Tryz.func206 rfl Tryz.ntmps206 rfl fun a hK => ?_
  have hM := St.start w0
  unfold d_impl_namesOk_2 at h
  refine wp_seq ?_
  refine wp_region_lit ?_
  refine s_box (cs := [.int .i64 (q1.fId), .int .i64 (q1.fW), .int .i64 (q1.fH), .int .i64 (q1.fD), .int .i64 (q1.fGram), .int .i64 (q1.fClass), .int .i64 (q1.fCount)]) hM hK rfl rfl rfl rfl rfl rfl fun b5 w7 a hK hM hE hb6 => ?_
  refine s1 hK rfl rfl rfl rfl fun a hK => ?_
  refine wpList_nil (nm_then ?_)
  refine wp_seq ?_
  refine wp_region_lit ?_
  refine s_val hK rfl rfl rfl (r_fa fa120_0 hK rfl rfl) fun a hK => ?_
  refine s_val hK rfl rfl rfl (r_ldb t13 hM 0 hb6 0 hK rfl rfl rfl rfl rfl) fun a hK => ?_
  refine s_val hK rfl rfl rfl (r_fa fa120_0 hK rfl rfl) fun a hK => ?_
  refine s_val hK rfl rfl rfl (r_ld1 t13 (r := []) (hp4.at (hM.a00 hp4.lt1) 0 1 rfl rfl rfl) hK rfl rfl) fun a hK => ?_
  iterate 2 (refine s1 hK rfl rfl rfl rfl fun a hK => ?_)
  refine wpList_nil (nm_then ?_)
  refine wp_ret ?_
  have h := Option.some.inj h
  subst h
  exact finR1 hK rfl (RV.tmp hK rfl) ⟨rfl, hM.ext⟩

theorem c_slices_IndexFunc_impl_Item_impl_Item (fu : Nat) {w0 : World} (sv1 : List Item) (f5 : Item → Option Bool) {v2 : Value} {F3 : List Nat} (hp4 : rd w0 F3 [v2] sv1) {v6 : Value} (hp7 : FnOk1 Tryz.prog w0 v6 f5) {r : Int}
    (h : d_slices_IndexFunc_impl_Item_impl_Item fu sv1 f5 = some r) :
    Calls Tryz.prog 190 #[v2, v6] w0 fun e w => e = .returned (.int .i64 (r)) ∧ Ext [] w0 w := by
  refine enter (vs := [_, _]) Tryz.func190 rfl Tryz.ntmps190 rfl fun a hK => ?_
  have hM := St.start w0
  obtain ⟨fid8, cap9, rfl, hcl10, hcc11⟩ := hp7
  unfold d_slices_IndexFunc_impl_Item_impl_Item at h
  refine wp_seq ?_
  refine wp_region_lit ?_
  refine s1 hK rfl rfl rfl rfl fun a hK => ?_
  refine wpList_nil (nm_then ?_)
  refine wp_seq ?_
  refine wp_seq ?_
  refine wp_region_lit ?_
  refine s1 hK rfl rfl rfl rfl fun a hK => ?_
  refine s_val hK rfl rfl rfl (r_len (α := Item) hp4 hK Tryz.underlying38 rfl rfl) fun a hK => ?_
  refine s1 hK rfl rfl rfl rfl fun a hK => ?_
  refine wpList_nil (nm_then ?_)
  refine wp_block ?_
  refine c_loop (fun n a w => ∃ (x32 : Int), K 19 [(0, v2), (1, (.func (.func fid8) #[] cap9.toArray)), (7, .int .i64 ((sv1.length : Int))), (8, .int .i64 (x32))] a ∧ St [] w0 w [] ∧ d_slices_IndexFunc_impl_Item_impl_Item_L1 fu sv1 f5 n x32 = some r) ?_ ?_ fu _ _ ?_
  · rintro a w ⟨_, _, _, h⟩
    cases (show none = some _ from h)
  · rintro m33 a w31 ⟨x32, hK, hM, h⟩
    rw [d_slices_IndexFunc_impl_Item_impl_Item_L1_s] at h
    unfold d_slices_IndexFunc_impl_Item_impl_Item_L1_B at h
    refine wp_seq ?_
    refine wp_region_lit ?_
    refine s1 hK rfl rfl rfl rfl fun a hK => ?_
    refine wpList_nil (nm_then ?_)
    refine wp_seq ?_
    refine c_cond (b := decide (x32 < ((sv1.length : Int)))) hK rfl (fun hb34 => ?_) (fun hb34 => ?_)
    · have h := bif_t hb34 h
      refine wp_skip (nm_then ?_)
      refine wp_seq ?_
      refine wp_block ?_
      refine wp_seq ?_
      refine wp_region_lit ?_
      iterate 2 (refine s1 hK rfl rfl rfl rfl fun a hK => ?_)
      refine wpList_nil (nm_then ?_)
      refine wp_seq ?_
      refine wp_region_lit ?_
      iterate 3 (refine s1 hK rfl rfl rfl rfl fun a hK => ?_)
      obtain ⟨x35, hx36, h⟩ := obind_some h
      refine s_val hK rfl rfl rfl (r_ixa hp4 hx36 hK ts38 rfl rfl rfl) fun a hK => ?_
      refine s_val hK rfl rfl rfl (r_lde hp4 (hM.a00 (Enc.rd_lt hp4)) hx36 ta120 hK rfl rfl) fun a hK => ?_
      obtain ⟨x37, hx38, h⟩ := obind_some h
      refine s_callv hK hcl10 rfl rfl rfl rfl rfl rfl (hcc11 _ _ _ _ hM.ext rfl hx38) fun e39 w40 hR => ?_
      obtain ⟨rfl, hE⟩ := hR
      refine ⟨_, rfl, fun a hK => ?_⟩
      have hM := hM.step hE
      refine wpList_nil (nm_then ?_)
      refine c_cond (b := x37) hK rfl (fun hb41 => ?_) (fun hb41 => ?_)
      · have h := bif_t hb41 h
        refine wp_seq ?_
        refine wp_region_lit ?_
        iterate 2 (refine s1 hK rfl rfl rfl rfl fun a hK => ?_)
        refine wpList_nil (nm_then ?_)
        refine wp_ret (rt_block (rt_then (rt_then (rt_block (rt_then ?_)))))
        have h := Option.some.inj h
        subst h
        exact finR1 hK rfl (RV.tmp hK rfl) ⟨rfl, hM.ext⟩
      · have h := bif_f hb41 h
        refine wp_skip (nm_block (nm_then ?_))
        refine wp_region_lit ?_
        iterate 2 (refine s1 hK rfl rfl rfl rfl fun a hK => ?_)
        refine wpList_nil (nm_then ?_)
        exact ⟨w64 (x32 + 1), hK.keep [0, 1, 7, 8] rfl, hM.sel [] rfl (by decide), h⟩
    · have h := bif_f hb34 h
      refine wp_exit (ex_then (ex_then (ex_same (nm_then ?_))))
      refine wp_seq ?_
      refine wp_region_lit ?_
      refine s1 hK rfl rfl rfl rfl fun a hK => ?_
      refine wpList_nil (nm_then ?_)
      refine wp_ret ?_
      have h := Option.some.inj h
      subst h
      exact finR1 hK rfl (RV.tmp hK rfl) ⟨rfl, hM.ext⟩
  · exact ⟨0, hK.keep [0, 1, 7, 8] rfl, hM.sel [] rfl (by decide), h⟩

theorem c_slices_ContainsFunc_impl_Item_impl_Item (fu : Nat) {w0 : World} (sv1 : List Item) (f5 : Item → Option Bool) {v2 : Value} {F3 : List Nat} (hp4 : rd w0 F3 [v2] sv1) {v6 : Value} (hp7 : FnOk1 Tryz.prog w0 v6 f5) {r : Bool}
    (h : d_slices_ContainsFunc_impl_Item_impl_Item fu sv1 f5 = some r) :
    Calls Tryz.prog 151 #[v2, v6] w0 fun e w => e = .returned (.bool (r)) ∧ Ext [] w0 w := by
  refine enter (vs := [_, _]) Tryz.func151 rfl Tryz.ntmps151 rfl fun a hK => ?_
  have hM := St.start w0
  obtain ⟨fid8, cap9, rfl, hcl10, hcc11⟩ := hp7
  unfold d_slices_ContainsFunc_impl_Item_impl_Item at h
  refine wp_seq ?_
  refine wp_region_lit ?_
  refine s1 hK rfl rfl rfl rfl fun a hK => ?_
  refine wpList_nil (nm_then ?_)
  refine wp_seq ?_
  refine wp_region_lit ?_
  iterate 2 (refine s1 hK rfl rfl rfl rfl fun a hK => ?_)
  obtain ⟨x14, hx15, h⟩ := obind_some h
  refine s_call hK Tryz.call190 rfl rfl rfl rfl rfl (c_slices_IndexFunc_impl_Item_impl_Item fu _ _ (Enc.rd_agr hp4 (hM.a00 (Enc.rd_lt hp4))) ⟨_, _, rfl, hcl10, fun w y12 v13 r hE => hcc11 w y12 v13 r (hM.ext.trans hE (by simp))⟩ hx15) fun e16 w17 hR => ?_
  obtain ⟨rfl, hE⟩ := hR
  refine ⟨_, rfl, fun a hK => ?_⟩
  have hM := hM.step hE
  iterate 2 (refine s1 hK rfl rfl rfl rfl fun a hK => ?_)
  refine wpList_nil (nm_then ?_)
  refine wp_ret ?_
  have h := Option.some.inj h
  subst h
  exact finR1 hK rfl (RV.tmp hK rfl) ⟨rfl, hM.ext⟩

theorem c_impl_namesOk_3 (fu : Nat) {w0 : World} (p1 : Pair) (x2 : Request) {v5 : Value} {F6 : List Nat} {v8 : Value} {F9 : List Nat} {v11 : Value} {F12 : List Nat} {b3 : Nat} (hp4 : bx w0 b3 [.int .i64 (x2.fWay), .int .i64 (x2.fPallet.fW), .int .i64 (x2.fPallet.fD), .int .i64 (x2.fPallet.fH), .int .i64 (x2.fPallet.fGram), .int .i64 (x2.fClasses), v5, v8, .int .i64 (x2.fMaster), v11] 40) (hp7 : rd w0 F6 [v5] x2.fPairs) (hp10 : rd w0 F9 [v8] x2.fTypes) (hp13 : rd w0 F12 [v11] x2.fItems) {r : Bool}
    (h : d_impl_namesOk_3 fu p1 x2 = some r) :
    Calls Tryz.prog 207 #[.agg (Flat.e (p1)).toArray, .pointer (some (⟨b3, 0, none⟩ : Addr))] w0 fun e w => e = .returned (.bool (r)) ∧ Ext [] w0 w := by
  refine enter (vs := [_, _]) Tryz.func207 rfl Tryz.ntmps207 rfl fun a hK => ?_
  have hM := St.start w0
  unfold d_impl_namesOk_3 at h
  refine wp_seq ?_
  refine wp_region_lit ?_
  refine s_box (cs := [.int .i64 (p1.fA), .int .i64 (p1.fB)]) hM hK rfl rfl rfl rfl rfl rfl fun b14 w16 a hK hM hE hb15 => ?_
  refine s1 hK rfl rfl rfl rfl fun a hK => ?_
  refine wpList_nil (nm_then ?_)
  refine wp_seq ?_
  refine wp_region_lit ?_
  refine s_val hK rfl rfl rfl (r_fa fa144_0 hK rfl rfl) fun a hK => ?_
  refine s_val hK rfl rfl rfl (r_ldb t13 hM 0 hb15 0 hK rfl rfl rfl rfl rfl) fun a hK => ?_
  refine s_val hK rfl rfl rfl (r_fa fa40_2 hK rfl rfl) fun a hK => ?_
  refine s_val hK rfl rfl rfl (r_ld1 t13 (r := []) (hp4.at (hM.a00 hp4.lt1) 5 1 rfl rfl rfl) hK rfl rfl) fun a hK => ?_
  iterate 2 (refine s1 hK rfl rfl rfl rfl fun a hK => ?_)
  refine bsplit (decide (p1.fA ≥ x2.fClasses)) (fun hb17 => ?_) (fun hb17 => ?_)
  · have h := bif_t hb17 h
    have hK := hK.re (d := 9) rfl (congrArg Value.bool hb17)
    refine sk hK rfl rfl rfl fun a hK => ?_
    refine sk hK rfl rfl rfl fun a hK => ?_
    refine sk hK rfl rfl rfl fun a hK => ?_
    refine sk hK rfl rfl rfl fun a hK => ?_
    refine sk hK rfl rfl rfl fun a hK => ?_
    iterate 2 (refine s1 hK rfl rfl rfl rfl fun a hK => ?_)
    refine wpList_nil (nm_then ?_)
    refine wp_ret ?_
    have h := Option.some.inj h
    subst h
    exact finR1 hK rfl (RV.tmp hK rfl) ⟨rfl, hM.ext⟩
  · have h := bif_f hb17 h
    have hK := hK.re (d := 9) rfl (congrArg Value.bool hb17)
    refine s_val hK rfl rfl rfl (r_fa fa144_1 hK rfl rfl) fun a hK => ?_
    refine s_val hK rfl rfl rfl (r_ldb t13 hM 0 hb15 1 hK rfl rfl rfl rfl rfl) fun a hK => ?_
    refine s_val hK rfl rfl rfl (r_fa fa40_2 hK rfl rfl) fun a hK => ?_
    refine s_val hK rfl rfl rfl (r_ld1 t13 (r := []) (hp4.at (hM.a00 hp4.lt1) 5 1 rfl rfl rfl) hK rfl rfl) fun a hK => ?_
    iterate 3 (refine s1 hK rfl rfl rfl rfl fun a hK => ?_)
    refine wpList_nil (nm_then ?_)
    refine wp_ret ?_
    have h := Option.some.inj h
    subst h
    exact finR1 hK rfl (RV.tmp hK rfl) ⟨rfl, hM.ext⟩

theorem c_impl_namesOk (fu : Nat) {w0 : World} (r1 : Request) {cs2 : List Value} {F3 : List Nat} (hp4 : rd w0 F3 cs2 r1) {r : Bool}
    (h : d_impl_namesOk fu r1 = some r) :
    Calls Tryz.prog 180 #[.agg cs2.toArray] w0 fun e w => e = .returned (.bool (r)) ∧ Ext [] w0 w := by
  refine enter (vs := [_]) Tryz.func180 rfl Tryz.ntmps180 rfl fun a hK => ?_
  have hM := St.start w0
  obtain ⟨v5, F6, v7, F8, v9, F10, rfl, rfl, hf11, hf12, hf13⟩ := hp4
  unfold d_impl_namesOk at h
  refine wp_seq ?_
  refine wp_region_lit ?_
  refine s_box (cs := [.int .i64 (r1.fWay), .int .i64 (r1.fPallet.fW), .int .i64 (r1.fPallet.fD), .int .i64 (r1.fPallet.fH), .int .i64 (r1.fPallet.fGram), .int .i64 (r1.fClasses), v5, v7, .int .i64 (r1.fMaster), v9]) hM hK rfl rfl rfl rfl rfl rfl fun b14 w16 a hK hM hE hb15 => ?_
  refine s1 hK rfl rfl rfl rfl fun a hK => ?_
  refine wpList_nil (nm_then ?_)
  refine wp_seq ?_
  refine wp_seq ?_
  refine wp_region_lit ?_
  refine s_val hK rfl rfl rfl (r_fa fa40_4 hK rfl rfl) fun a hK => ?_
  refine s_val hK rfl rfl rfl (r_ldb t137 hM 0 hb15 7 hK rfl rfl rfl rfl rfl) fun a hK => ?_
  refine s_val hK rfl rfl rfl (r_len (α := Typ) hf12 hK Tryz.underlying37 rfl rfl) fun a hK => ?_
  refine s1 hK rfl rfl rfl rfl fun a hK => ?_
  refine wpList_nil (nm_then ?_)
  refine wp_block ?_
  refine c_loop (fun n a w => ∃ (x63 : Int), K 59 [(1, .pointer (some (⟨b14, 0, none⟩ : Addr))), (10, v7), (11, .int .i64 ((r1.fTypes.length : Int))), (12, .int .i64 (x63))] a ∧ St [] w0 w [([b14], w16)] ∧ d_impl_namesOk_L2 fu r1 n x63 = some r) ?_ ?_ fu _ _ ?_
  · rintro a w ⟨_, _, _, h⟩
    cases (show none = some _ from h)
  · rintro m64 a w62 ⟨x63, hK, hM, h⟩
    rw [d_impl_namesOk_L2_s] at h
    unfold d_impl_namesOk_L2_B at h
    refine wp_seq ?_
    refine wp_region_lit ?_
    refine s1 hK rfl rfl rfl rfl fun a hK => ?_
    refine wpList_nil (nm_then ?_)
    refine wp_seq ?_
    refine c_cond (b := decide (x63 < ((r1.fTypes.length : Int)))) hK rfl (fun hb65 => ?_) (fun hb65 => ?_)
    · have h := bif_t hb65 h
      refine wp_skip (nm_then ?_)
      refine wp_seq ?_
      refine wp_block ?_
      refine wp_seq ?_
      refine wp_region_lit ?_
      refine s1 hK rfl rfl rfl rfl fun a hK => ?_
      obtain ⟨x66, hx67, h⟩ := obind_some h
      refine s_val hK rfl rfl rfl (r_ixa hf12 hx67 hK ts37 rfl rfl rfl) fun a hK => ?_
      refine s_val hK rfl rfl rfl (r_lde hf12 (hM.a00 (Enc.rd_lt hf12)) hx67 ta92 hK rfl rfl) fun a hK => ?_
      refine s_alloc (cs := [.int .i64 (0), .int .i64 (0), .int .i64 (0), .int .i64 (0), .int .i64 (0), .int .i64 (0), .int .i64 (0)]) hM hK Tryz.zeroValue92 rfl rfl rfl rfl rfl fun b68 w70 a hK hM hE hb69 => ?_
      refine s1 hK rfl rfl rfl rfl fun a hK => ?_
      refine s_stb (cs' := [.int .i64 (x66.fId), .int .i64 (x66.fW), .int .i64 (x66.fH), .int .i64 (x66.fD), .int .i64 (x66.fTare), .int .i64 (x66.fGram), .int .i64 (x66.fCost)]) Tryz.sizeOf92 hM 0 hb69 0 hK rfl rfl rfl rfl rfl rfl rfl rfl rfl rfl rfl fun w71 a hK hE hM hb72 => ?_
      refine wpList_nil (nm_then ?_)
      refine wp_seq ?_
      refine wp_region_lit ?_
      refine s_val hK rfl rfl rfl (r_fa fa40_4 hK rfl rfl) fun a hK => ?_
      refine s_val hK rfl rfl rfl (r_ldb t137 hM 1 hb15 7 hK rfl rfl rfl rfl rfl) fun a hK => ?_
      refine s1 hK rfl rfl rfl rfl fun a hK => ?_
      obtain ⟨x73, hx74, h⟩ := obind_some h
      refine s_slTo hf12 hx74 hK ts37 rfl rfl rfl rfl rfl rfl fun v75 a hK hf76 => ?_
      refine s1 hK rfl rfl rfl rfl fun a hK => ?_
      obtain ⟨x81, hx82, h⟩ := obind_some h
      refine s_call hK Tryz.call184 rfl rfl rfl rfl rfl (c_slices_ContainsFunc_impl_Type_impl_Type fu _ _ (Enc.rd_agr hf76 (hM.a00 (Enc.rd_lt hf76))) ⟨205, [.pointer (some (⟨b68, 0, none⟩ : Addr))], rfl, Tryz.call205, fun w y78 v79 r hE hv80 hx => by subst hv80; have hM := hM.step hE; exact c_impl_namesOk_1 fu _ _ (hb72.agr (hM.a 0 rfl) (by simp)) hx⟩ hx82) fun e83 w84 hR => ?_
      obtain ⟨rfl, hE⟩ := hR
      refine ⟨_, rfl, fun a hK => ?_⟩
      have hM := hM.step hE
      refine wpList_nil (nm_then ?_)
      refine c_cond (b := x81) hK rfl (fun hb85 => ?_) (fun hb85 => ?_)
      · have h := bif_t hb85 h
        refine wp_seq ?_
        refine wp_region_lit ?_
        refine s1 hK rfl rfl rfl rfl fun a hK => ?_
        refine wpList_nil (nm_then ?_)
        refine wp_ret (rt_block (rt_then (rt_then (rt_block (rt_then ?_)))))
        have h := Option.some.inj h
        subst h
        exact finR1 hK rfl (RV.tmp hK rfl) ⟨rfl, hM.ext⟩
      · have h := bif_f hb85 h
        refine wp_skip (nm_block (nm_then ?_))
        refine wp_region_lit ?_
        iterate 2 (refine s1 hK rfl rfl rfl rfl fun a hK => ?_)
        refine wpList_nil (nm_then ?_)
        exact ⟨w64 (x63 + 1), hK.keep [1, 10, 11, 12] rfl, hM.sel [1] rfl (by decide), h⟩
    · have h := bif_f hb65 h
      refine wp_exit (ex_then (ex_then (ex_same (nm_then ?_))))
      refine wp_seq ?_
      refine wp_seq ?_
      refine wp_region_lit ?_
      refine s_val hK rfl rfl rfl (r_fa fa40_6 hK rfl rfl) fun a hK => ?_
      refine s_val hK rfl rfl rfl (r_ldb t138 hM 0 hb15 9 hK rfl rfl rfl rfl rfl) fun a hK => ?_
      refine s_val hK rfl rfl rfl (r_len (α := Item) hf13 hK Tryz.underlying38 rfl rfl) fun a hK => ?_
      refine s1 hK rfl rfl rfl rfl fun a hK => ?_
      refine wpList_nil (nm_then ?_)
      refine wp_block ?_
      refine c_loop (fun n a w => ∃ (x178 : Int), K 59 [(1, .pointer (some (⟨b14, 0, none⟩ : Addr))), (25, v9), (26, .int .i64 ((r1.fItems.length : Int))), (27, .int .i64 (x178))] a ∧ St [] w0 w [([b14], w16)] ∧ d_impl_namesOk_L1 fu r1 n x178 = some r) ?_ ?_ fu _ _ ?_
      · rintro a w ⟨_, _, _, h⟩
        cases (show none = some _ from h)
      · rintro m179 a w177 ⟨x178, hK, hM, h⟩
        rw [d_impl_namesOk_L1_s] at h
        unfold d_impl_namesOk_L1_B at h
        refine wp_seq ?_
        refine wp_region_lit ?_
        refine s1 hK rfl rfl rfl rfl fun a hK => ?_
        refine wpList_nil (nm_then ?_)
        refine wp_seq ?_
        refine c_cond (b := decide (x178 < ((r1.fItems.length : Int)))) hK rfl (fun hb180 => ?_) (fun hb180 => ?_)
        · have h := bif_t hb180 h
          refine wp_skip (nm_then ?_)
          refine c_cut (fun a w => K 59 [(1, .pointer (some (⟨b14, 0, none⟩ : Addr))), (25, v9), (26, .int .i64 ((r1.fItems.length : Int))), (27, .int .i64 (x178))] a ∧ St [] w0 w [([b14], w16)] ∧ d_impl_namesOk_J1 fu (d_impl_namesOk_L1 fu r1 m179) x178 = some r) ?_ ?_
          · rintro a w202 ⟨hK, hM, h⟩
            unfold d_impl_namesOk_J1 at h
            refine wp_region_lit ?_
            iterate 2 (refine s1 hK rfl rfl rfl rfl fun a hK => ?_)
            refine wpList_nil (nm_then ?_)
            exact ⟨w64 (x178 + 1), hK.keep [1, 25, 26, 27] rfl, hM.sel [0] rfl (by decide), h⟩
          · refine wp_block ?_
            refine wp_seq ?_
            refine wp_region_lit ?_
            refine s1 hK rfl rfl rfl rfl fun a hK => ?_
            obtain ⟨x203, hx204, h⟩ := obind_some h
            refine s_val hK rfl rfl rfl (r_ixa hf13 hx204 hK ts38 rfl rfl rfl) fun a hK => ?_
            refine s_val hK rfl rfl rfl (r_lde hf13 (hM.a00 (Enc.rd_lt hf13)) hx204 ta120 hK rfl rfl) fun a hK => ?_
            refine s_alloc (cs := [.int .i64 (0), .int .i64 (0), .int .i64 (0), .int .i64 (0), .int .i64 (0), .int .i64 (0), .int .i64 (0)]) hM hK Tryz.zeroValue120 rfl rfl rfl rfl rfl fun b205 w207 a hK hM hE hb206 => ?_
            refine s1 hK rfl rfl rfl rfl fun a hK => ?_
            refine s_stb (cs' := [.int .i64 (x203.fId), .int .i64 (x203.fW), .int .i64 (x203.fH), .int .i64 (x203.fD), .int .i64 (x203.fGram), .int .i64 (x203.fClass), .int .i64 (x203.fCount)]) Tryz.sizeOf120 hM 0 hb206 0 hK rfl rfl rfl rfl rfl rfl rfl rfl rfl rfl rfl fun w208 a hK hE hM hb209 => ?_
            refine wpList_nil (nm_then ?_)
            refine wp_seq ?_
            refine wp_region_lit ?_
            refine s_val hK rfl rfl rfl (r_fa fa120_5 hK rfl rfl) fun a hK => ?_
            refine s_val hK rfl rfl rfl (r_ldb t13 hM 0 hb209 5 hK rfl rfl rfl rfl rfl) fun a hK => ?_
            refine s_val hK rfl rfl rfl (r_fa fa40_2 hK rfl rfl) fun a hK => ?_
            refine s_val hK rfl rfl rfl (r_ldb t13 hM 1 hb15 5 hK rfl rfl rfl rfl rfl) fun a hK => ?_
            iterate 2 (refine s1 hK rfl rfl rfl rfl fun a hK => ?_)
            refine bsplit (decide (x203.fClass ≥ r1.fClasses)) (fun hb210 => ?_) (fun hb210 => ?_)
            · have h := bif_t hb210 h
              have hK := hK.re (d := 37) rfl (congrArg Value.bool hb210)
              refine sk hK rfl rfl rfl fun a hK => ?_
              refine sk hK rfl rfl rfl fun a hK => ?_
              refine sk hK rfl rfl rfl fun a hK => ?_
              refine sk hK rfl rfl rfl fun a hK => ?_
              refine sk hK rfl rfl rfl fun a hK => ?_
              refine sk hK rfl rfl rfl fun a hK => ?_
              refine s1 hK rfl rfl rfl rfl fun a hK => ?_
              refine wpList_nil (nm_then ?_)
              refine wp_cond_true (hK.ev rfl) ?_
              refine wp_seq ?_
              refine wp_region_lit ?_
              refine s1 hK rfl rfl rfl rfl fun a hK => ?_
              refine wpList_nil (nm_then ?_)
              refine wp_ret (rt_block (rt_then (rt_then (rt_block (rt_then ?_)))))
              have h := Option.some.inj h
              subst h
              exact finR1 hK rfl (RV.tmp hK rfl) ⟨rfl, hM.ext⟩
            · have h := bif_f hb210 h
              have hK := hK.re (d := 37) rfl (congrArg Value.bool hb210)
              refine s_val hK rfl rfl rfl (r_fa fa40_6 hK rfl rfl) fun a hK => ?_
              refine s_val hK rfl rfl rfl (r_ldb t138 hM 1 hb15 9 hK rfl rfl rfl rfl rfl) fun a hK => ?_
              refine s1 hK rfl rfl rfl rfl fun a hK => ?_
              obtain ⟨x211, hx212, h⟩ := obind_some h
              refine s_slTo hf13 hx212 hK ts38 rfl rfl rfl rfl rfl rfl fun v213 a hK hf214 => ?_
              refine s1 hK rfl rfl rfl rfl fun a hK => ?_
              obtain ⟨x219, hx220, h⟩ := obind_some h
              refine s_call hK Tryz.call151 rfl rfl rfl rfl rfl (c_slices_ContainsFunc_impl_Item_impl_Item fu _ _ (Enc.rd_agr hf214 (hM.a00 (Enc.rd_lt hf214))) ⟨206, [.pointer (some (⟨b205, 0, none⟩ : Addr))], rfl, Tryz.call206, fun w y216 v217 r hE hv218 hx => by subst hv218; have hM := hM.step hE; exact c_impl_namesOk_2 fu _ _ (hb209.agr (hM.a 0 rfl) (by simp)) hx⟩ hx220) fun e221 w222 hR => ?_
              obtain ⟨rfl, hE⟩ := hR
              refine ⟨_, rfl, fun a hK => ?_⟩
              have hM := hM.step hE
              refine s1 hK rfl rfl rfl rfl fun a hK => ?_
              refine wpList_nil (nm_then ?_)
              refine c_cond (b := x219) hK rfl (fun hb223 => ?_) (fun hb223 => ?_)
              · have h := bif_t hb223 h
                refine wp_seq ?_
                refine wp_region_lit ?_
                refine s1 hK rfl rfl rfl rfl fun a hK => ?_
                refine wpList_nil (nm_then ?_)
                refine wp_ret (rt_block (rt_then (rt_then (rt_block (rt_then ?_)))))
                have h := Option.some.inj h
                subst h
                exact finR1 hK rfl (RV.tmp hK rfl) ⟨rfl, hM.ext⟩
              · have h := bif_f hb223 h
                refine wp_skip (nm_block (nm_then ?_))
                exact ⟨hK.keep [1, 25, 26, 27] rfl, hM.sel [1] rfl (by decide), h⟩
        · have h := bif_f hb180 h
          refine wp_exit (ex_then (ex_then (ex_same (nm_then ?_))))
          refine wp_seq ?_
          refine wp_region_lit ?_
          refine s_val hK rfl rfl rfl (r_ldB ta40 hM 0 hb15 0 hK rfl rfl rfl rfl rfl rfl) fun a hK => ?_
          obtain ⟨x224, hx225, h⟩ := obind_some h
          refine s_call hK Tryz.call148 rfl rfl rfl rfl rfl (c_impl_MasterOf fu _ (show rd _ _ [.int .i64 (r1.fWay), .int .i64 (r1.fPallet.fW), .int .i64 (r1.fPallet.fD), .int .i64 (r1.fPallet.fH), .int .i64 (r1.fPallet.fGram), .int .i64 (r1.fClasses), v5, v7, .int .i64 (r1.fMaster), v9] (r1 : Request) from ⟨_, _, _, _, _, _, rfl, rfl, (Enc.rd_agr hf11 (hM.a00 (Enc.rd_lt hf11))), (Enc.rd_agr hf12 (hM.a00 (Enc.rd_lt hf12))), (Enc.rd_agr hf13 (hM.a00 (Enc.rd_lt hf13)))⟩) hx225) fun e226 w227 hR => ?_
          obtain ⟨rfl, hE⟩ := hR
          refine ⟨_, rfl, fun a hK => ?_⟩
          have hM := hM.step hE
          iterate 3 (refine s1 hK rfl rfl rfl rfl fun a hK => ?_)
          refine s_alloc (cs := [.int .i64 (0), .int .i64 (0), .int .i64 (0), .int .i64 (0), .int .i64 (0), .int .i64 (0), .int .i64 (0)]) hM hK Tryz.zeroValue92 rfl rfl rfl rfl rfl fun b228 w230 a hK hM hE hb229 => ?_
          refine s_stb (cs' := [.int .i64 (x224.1.fId), .int .i64 (x224.1.fW), .int .i64 (x224.1.fH), .int .i64 (x224.1.fD), .int .i64 (x224.1.fTare), .int .i64 (x224.1.fGram), .int .i64 (x224.1.fCost)]) Tryz.sizeOf92 hM 0 hb229 0 hK rfl rfl rfl rfl rfl rfl rfl rfl rfl rfl rfl fun w231 a hK hE hM hb232 => ?_
          refine s1 hK rfl rfl rfl rfl fun a hK => ?_
          refine wpList_nil (nm_then ?_)
          refine wp_seq ?_
          refine wp_region_lit ?_
          iterate 2 (refine s1 hK rfl rfl rfl rfl fun a hK => ?_)
          refine bsplit (x224.2) (fun hb233 => ?_) (fun hb233 => ?_)
          · have h := bif_t hb233 h
            have hK := hK.re (d := 52) rfl (congrArg Value.bool hb233)
            refine s_val hK rfl rfl rfl (r_fa fa40_3 hK rfl rfl) fun a hK => ?_
            refine s_val hK rfl rfl rfl (r_ldb t136 hM 1 hb15 6 hK rfl rfl rfl rfl rfl) fun a hK => ?_
            refine s1 hK rfl rfl rfl rfl fun a hK => ?_
            obtain ⟨x237, hx238, h⟩ := obind_some h
            refine s_call hK Tryz.call200 rfl rfl rfl rfl rfl (c_slices_ContainsFunc_impl_Pair_impl_Pair fu _ _ (Enc.rd_agr hf11 (hM.a00 (Enc.rd_lt hf11))) ⟨207, [.pointer (some (⟨b14, 0, none⟩ : Addr))], rfl, Tryz.call207, fun w y234 v235 r hE hv236 hx => by subst hv236; have hM := hM.step hE; exact c_impl_namesOk_3 fu _ _ (hb15.agr (hM.a 1 rfl) (by simp)) (Enc.rd_agr hf11 (hM.a00 (Enc.rd_lt hf11))) (Enc.rd_agr hf12 (hM.a00 (Enc.rd_lt hf12))) (Enc.rd_agr hf13 (hM.a00 (Enc.rd_lt hf13))) hx⟩ hx238) fun e239 w240 hR => ?_
            obtain ⟨rfl, hE⟩ := hR
            refine ⟨_, rfl, fun a hK => ?_⟩
            have hM := hM.step hE
            iterate 3 (refine s1 hK rfl rfl rfl rfl fun a hK => ?_)
            refine wpList_nil (nm_then ?_)
            refine wp_ret ?_
            have h := Option.some.inj h
            subst h
            exact finR1 hK rfl (RV.tmp hK rfl) ⟨rfl, hM.ext⟩
          · have h := bif_f hb233 h
            have hK := hK.re (d := 52) rfl (congrArg Value.bool hb233)
            refine sk hK rfl rfl rfl fun a hK => ?_
            refine sk hK rfl rfl rfl fun a hK => ?_
            refine sk hK rfl rfl rfl fun a hK => ?_
            refine sk hK rfl rfl rfl fun a hK => ?_
            refine sk hK rfl rfl rfl fun a hK => ?_
            iterate 2 (refine s1 hK rfl rfl rfl rfl fun a hK => ?_)
            refine wpList_nil (nm_then ?_)
            refine wp_ret ?_
            have h := Option.some.inj h
            subst h
            exact finR1 hK rfl (RV.tmp hK rfl) ⟨rfl, hM.ext⟩
      · exact ⟨0, hK.keep [1, 25, 26, 27] rfl, hM.sel [0] rfl (by decide), h⟩
  · exact ⟨0, hK.keep [1, 10, 11, 12] rfl, hM.sel [0] rfl (by decide), h⟩

theorem c_slices_Index_impl_Pair_impl_Pair (fu : Nat) {w0 : World} (sv1 : List Pair) (v5 : Pair) {v2 : Value} {F3 : List Nat} (hp4 : rd w0 F3 [v2] sv1) {r : Int}
    (h : d_slices_Index_impl_Pair_impl_Pair fu sv1 v5 = some r) :
    Calls Tryz.prog 226 #[v2, .agg (Flat.e (v5)).toArray] w0 fun e w => e = .returned (.int .i64 (r)) ∧ Ext [] w0 w := by
  refine enter (vs := [_, _]) Tryz.func226 rfl Tryz.ntmps226 rfl fun a hK => ?_
  have hM := St.start w0
  unfold d_slices_Index_impl_Pair_impl_Pair at h
  refine wp_seq ?_
  refine wp_region_lit ?_
  refine s_box (cs := [.int .i64 (v5.fA), .int .i64 (v5.fB)]) hM hK rfl rfl rfl rfl rfl rfl fun b6 w8 a hK hM hE hb7 => ?_
  refine s1 hK rfl rfl rfl rfl fun a hK => ?_
  refine wpList_nil (nm_then ?_)
  refine wp_seq ?_
  refine wp_seq ?_
  refine wp_region_lit ?_
  refine s1 hK rfl rfl rfl rfl fun a hK => ?_
  refine s_val hK rfl rfl rfl (r_len (α := Pair) hp4 hK Tryz.underlying36 rfl rfl) fun a hK => ?_
  refine s1 hK rfl rfl rfl rfl fun a hK => ?_
  refine wpList_nil (nm_then ?_)
  refine wp_block ?_
  refine c_loop (fun n a w => ∃ (x23 : Int), K 19 [(0, v2), (3, .pointer (some (⟨b6, 0, none⟩ : Addr))), (7, .int .i64 ((sv1.length : Int))), (8, .int .i64 (x23))] a ∧ St [] w0 w [([b6], w8)] ∧ d_slices_Index_impl_Pair_impl_Pair_L1 fu sv1 v5 n x23 = some r) ?_ ?_ fu _ _ ?_
  · rintro a w ⟨_, _, _, h⟩
    cases (show none = some _ from h)
  · rintro m24 a w22 ⟨x23, hK, hM, h⟩
    rw [d_slices_Index_impl_Pair_impl_Pair_L1_s] at h
    unfold d_slices_Index_impl_Pair_impl_Pair_L1_B at h
    refine wp_seq ?_
    refine wp_region_lit ?_
    refine s1 hK rfl rfl rfl rfl fun a hK => ?_
    refine wpList_nil (nm_then ?_)
    refine wp_seq ?_
    refine c_cond (b := decide (x23 < ((sv1.length : Int)))) hK rfl (fun hb25 => ?_) (fun hb25 => ?_)
    · have h := bif_t hb25 h
      refine wp_skip (nm_then ?_)
      refine wp_seq ?_
      refine wp_block ?_
      refine wp_seq ?_
      refine wp_region_lit ?_
      iterate 2 (refine s1 hK rfl rfl rfl rfl fun a hK => ?_)
      refine wpList_nil (nm_then ?_)
      refine wp_seq ?_
      refine d_go [] mixo hM rfl fun w26 hMd => ?_
      have hM := hMd
      have hS := Ext.refl ([] : List Nat) w26
      refine d_take hK 0 rfl (by kernel_rfl) (by kernel_rfl) (by kernel_rfl) rfl rfl rfl hS (fun _ _ _ h => h) (fun w hS => r_ldA ta144 (hb7.at ((hMd.step hS).a 0 rfl) 0 2 rfl rfl rfl) rfl hK rfl rfl) fun a hK => ?_
      refine d_pure hK 1 rfl (by kernel_rfl) (by kernel_rfl) (by kernel_rfl) rfl rfl rfl hS (fun _ _ _ h => h) rfl fun a hK => ?_
      refine d_pure hK 2 rfl (by kernel_rfl) (by kernel_rfl) (by kernel_rfl) rfl rfl rfl hS (fun _ _ _ h => h) rfl fun a hK => ?_
      obtain ⟨x27, hx28, h⟩ := obind_some h
      refine d_take hK 3 rfl (by kernel_rfl) (by kernel_rfl) (by kernel_rfl) rfl rfl rfl hS (fun _ _ _ h => h) (fun w hS => r_ixa hp4 hx28 hK ts36 rfl rfl rfl) fun a hK => ?_
      refine d_take hK 4 rfl (by kernel_rfl) (by kernel_rfl) (by kernel_rfl) rfl rfl rfl hS (fun _ _ _ h => h) (fun w hS => r_lde hp4 ((hMd.step hS).a00 (Enc.rd_lt hp4)) hx28 ta144 hK rfl rfl) fun a hK => ?_
      refine d_take hK 5 rfl (by kernel_rfl) (by kernel_rfl) (by kernel_rfl) rfl rfl rfl hS (fun _ _ _ h => h) (fun w hS => r_eqs seq144 (x := v5) (y := x27) hK rfl rfl rfl rfl rfl) fun a hK => ?_
      refine d_done (by kernel_rfl) ?_
      refine (nm_then ?_)
      refine c_cond (b := decide (v5 = x27)) hK rfl (fun hb29 => ?_) (fun hb29 => ?_)
      · have h := bif_t hb29 h
        refine wp_seq ?_
        refine wp_region_lit ?_
        iterate 2 (refine s1 hK rfl rfl rfl rfl fun a hK => ?_)
        refine wpList_nil (nm_then ?_)
        refine wp_ret (rt_block (rt_then (rt_then (rt_block (rt_then ?_)))))
        have h := Option.some.inj h
        subst h
        exact finR1 hK rfl (RV.tmp hK rfl) ⟨rfl, hM.ext⟩
      · have h := bif_f hb29 h
        refine wp_skip (nm_block (nm_then ?_))
        refine wp_region_lit ?_
        iterate 2 (refine s1 hK rfl rfl rfl rfl fun a hK => ?_)
        refine wpList_nil (nm_then ?_)
        exact ⟨w64 (x23 + 1), hK.keep [0, 3, 7, 8] rfl, hM.sel [0] rfl (by decide), h⟩
    · have h := bif_f hb25 h
      refine wp_exit (ex_then (ex_then (ex_same (nm_then ?_))))
      refine wp_seq ?_
      refine wp_region_lit ?_
      refine s1 hK rfl rfl rfl rfl fun a hK => ?_
      refine wpList_nil (nm_then ?_)
      refine wp_ret ?_
      have h := Option.some.inj h
      subst h
      exact finR1 hK rfl (RV.tmp hK rfl) ⟨rfl, hM.ext⟩
  · exact ⟨0, hK.keep [0, 3, 7, 8] rfl, hM.sel [0] rfl (by decide), h⟩

theorem c_slices_Contains_impl_Pair_impl_Pair (fu : Nat) {w0 : World} (sv1 : List Pair) (v5 : Pair) {v2 : Value} {F3 : List Nat} (hp4 : rd w0 F3 [v2] sv1) {r : Bool}
    (h : d_slices_Contains_impl_Pair_impl_Pair fu sv1 v5 = some r) :
    Calls Tryz.prog 211 #[v2, .agg (Flat.e (v5)).toArray] w0 fun e w => e = .returned (.bool (r)) ∧ Ext [] w0 w := by
  refine enter (vs := [_, _]) Tryz.func211 rfl Tryz.ntmps211 rfl fun a hK => ?_
  have hM := St.start w0
  unfold d_slices_Contains_impl_Pair_impl_Pair at h
  refine wp_seq ?_
  refine wp_region_lit ?_
  refine s_box (cs := [.int .i64 (v5.fA), .int .i64 (v5.fB)]) hM hK rfl rfl rfl rfl rfl rfl fun b6 w8 a hK hM hE hb7 => ?_
  refine s1 hK rfl rfl rfl rfl fun a hK => ?_
  refine wpList_nil (nm_then ?_)
  refine wp_seq ?_
  refine wp_region_lit ?_
  refine s1 hK rfl rfl rfl rfl fun a hK => ?_
  refine s_val hK rfl rfl rfl (r_ldB ta144 hM 0 hb7 0 hK rfl rfl rfl rfl rfl rfl) fun a hK => ?_
  obtain ⟨x9, hx10, h⟩ := obind_some h
  refine s_call hK Tryz.call226 rfl rfl rfl rfl rfl (c_slices_Index_impl_Pair_impl_Pair fu _ (v5 : Pair) (Enc.rd_agr hp4 (hM.a00 (Enc.rd_lt hp4))) hx10) fun e11 w12 hR => ?_
  obtain ⟨rfl, hE⟩ := hR
  refine ⟨_, rfl, fun a hK => ?_⟩
  have hM := hM.step hE
  iterate 2 (refine s1 hK rfl rfl rfl rfl fun a hK => ?_)
  refine wpList_nil (nm_then ?_)
  refine wp_ret ?_
  have h := Option.some.inj h
  subst h
  exact finR1 hK rfl (RV.tmp hK rfl) ⟨rfl, hM.ext⟩

theorem c_impl_Beside (fu : Nat) {w0 : World} (pairs1 : List Pair) (a5 : Int) (b6 : Int) {v2 : Value} {F3 : List Nat} (hp4 : rd w0 F3 [v2] pairs1) {r : Bool}
    (h : d_impl_Beside fu pairs1 a5 b6 = some r) :
    Calls Tryz.prog 192 #[v2, .int .i64 (a5), .int .i64 (b6)] w0 fun e w => e = .returned (.bool (r)) ∧ Ext [] w0 w := by
  refine enter (vs := [_, _, _]) Tryz.func192 rfl Tryz.ntmps192 rfl fun a hK => ?_
  have hM := St.start w0
  unfold d_impl_Beside at h
  refine wp_seq ?_
  refine wp_region_lit ?_
  refine s1 hK rfl rfl rfl rfl fun a hK => ?_
  refine wpList_nil (nm_then ?_)
  refine wp_seq ?_
  refine wp_region_lit ?_
  iterate 3 (refine s1 hK rfl rfl rfl rfl fun a hK => ?_)
  refine s_val hK rfl rfl rfl (r_build bt144 hK (ps := [(0, .tmp 8), (1, .tmp 9)]) rfl rfl rfl) fun a hK => ?_
  obtain ⟨x7, hx8, h⟩ := obind_some h
  refine s_call hK Tryz.call211 rfl rfl rfl rfl rfl (c_slices_Contains_impl_Pair_impl_Pair fu _ (((⟨a5, b6⟩ : Pair)) : Pair) (Enc.rd_agr hp4 (hM.a00 (Enc.rd_lt hp4))) hx8) fun e9 w10 hR => ?_
  obtain ⟨rfl, hE⟩ := hR
  refine ⟨_, rfl, fun a hK => ?_⟩
  have hM := hM.step hE
  refine s1 hK rfl rfl rfl rfl fun a hK => ?_
  refine wpList_nil (nm_then ?_)
  refine wp_ret ?_
  have h := Option.some.inj h
  subst h
  exact finR1 hK rfl (RV.tmp hK rfl) ⟨rfl, hM.ext⟩

theorem c_impl_TableOk (fu : Nat) {w0 : World} (pairs1 : List Pair) (classes5 : Int) {v2 : Value} {F3 : List Nat} (hp4 : rd w0 F3 [v2] pairs1) {r : Bool}
    (h : d_impl_TableOk fu pairs1 classes5 = some r) :
    Calls Tryz.prog 181 #[v2, .int .i64 (classes5)] w0 fun e w => e = .returned (.bool (r)) ∧ Ext [] w0 w := by
  refine enter (vs := [_, _]) Tryz.func181 rfl Tryz.ntmps181 rfl fun a hK => ?_
  have hM := St.start w0
  unfold d_impl_TableOk at h
  refine wp_seq ?_
  refine wp_region_lit ?_
  refine s1 hK rfl rfl rfl rfl fun a hK => ?_
  refine wpList_nil (nm_then ?_)
  refine wp_seq ?_
  refine wp_seq ?_
  refine wp_region_lit ?_
  refine s1 hK rfl rfl rfl rfl fun a hK => ?_
  obtain ⟨x6, hx7, h⟩ := obind_some h
  refine s_call hK Tryz.call99 rfl rfl rfl rfl rfl (c_impl_in fu _ _ _  hx7) fun e8 w9 hR => ?_
  obtain ⟨rfl, hE⟩ := hR
  refine ⟨_, rfl, fun a hK => ?_⟩
  have hM := hM.step hE
  refine s1 hK rfl rfl rfl rfl fun a hK => ?_
  refine wpList_nil (nm_then ?_)
  refine c_cond (b := !x6) hK rfl (fun hb10 => ?_) (fun hb10 => ?_)
  · have h := bif_t hb10 h
    refine wp_seq ?_
    refine wp_region_lit ?_
    refine s1 hK rfl rfl rfl rfl fun a hK => ?_
    refine wpList_nil (nm_then ?_)
    refine wp_ret (rt_then ?_)
    have h := Option.some.inj h
    subst h
    exact finR1 hK rfl (RV.tmp hK rfl) ⟨rfl, hM.ext⟩
  · have h := bif_f hb10 h
    refine wp_skip (nm_then ?_)
    refine wp_seq ?_
    refine wp_seq ?_
    refine wp_region_lit ?_
    iterate 2 (refine s1 hK rfl rfl rfl rfl fun a hK => ?_)
    refine wpList_nil (nm_then ?_)
    refine wp_block ?_
    refine c_loop (fun n a w => ∃ (x99 : Int), K 34 [(0, v2), (1, .int .i64 (classes5)), (10, .int .i64 (classes5)), (11, .int .i64 (x99))] a ∧ St [] w0 w [] ∧ d_impl_TableOk_L2 fu pairs1 classes5 n x99 = some r) ?_ ?_ fu _ _ ?_
    · rintro a w ⟨_, _, _, h⟩
      cases (show none = some _ from h)
    · rintro m100 a w98 ⟨x99, hK, hM, h⟩
      rw [d_impl_TableOk_L2_s] at h
      unfold d_impl_TableOk_L2_B at h
      refine wp_seq ?_
      refine wp_region_lit ?_
      refine s1 hK rfl rfl rfl rfl fun a hK => ?_
      refine wpList_nil (nm_then ?_)
      refine wp_seq ?_
      refine c_cond (b := decide (x99 < classes5)) hK rfl (fun hb101 => ?_) (fun hb101 => ?_)
      · have h := bif_t hb101 h
        refine wp_skip (nm_then ?_)
        refine wp_seq ?_
        refine wp_block ?_
        refine wp_seq ?_
        refine wp_region_lit ?_
        iterate 2 (refine s1 hK rfl rfl rfl rfl fun a hK => ?_)
        refine wpList_nil (nm_then ?_)
        refine wp_seq ?_
        refine wp_seq ?_
        refine wp_region_lit ?_
        iterate 3 (refine s1 hK rfl rfl rfl rfl fun a hK => ?_)
        obtain ⟨x102, hx103, h⟩ := obind_some h
        refine s_call hK Tryz.call192 rfl rfl rfl rfl rfl (c_impl_Beside fu _ _ _ (Enc.rd_agr hp4 (hM.a00 (Enc.rd_lt hp4))) hx103) fun e104 w105 hR => ?_
        obtain ⟨rfl, hE⟩ := hR
        refine ⟨_, rfl, fun a hK => ?_⟩
        have hM := hM.step hE
        refine s1 hK rfl rfl rfl rfl fun a hK => ?_
        refine wpList_nil (nm_then ?_)
        refine c_cond (b := !x102) hK rfl (fun hb106 => ?_) (fun hb106 => ?_)
        · have h := bif_t hb106 h
          refine wp_seq ?_
          refine wp_region_lit ?_
          refine s1 hK rfl rfl rfl rfl fun a hK => ?_
          refine wpList_nil (nm_then ?_)
          refine wp_ret (rt_then (rt_block (rt_then (rt_then (rt_block (rt_then ?_))))))
          have h := Option.some.inj h
          subst h
          exact finR1 hK rfl (RV.tmp hK rfl) ⟨rfl, hM.ext⟩
        · have h := bif_f hb106 h
          refine wp_skip (nm_then ?_)
          refine wp_seq ?_
          refine wp_region_lit ?_
          iterate 2 (refine s1 hK rfl rfl rfl rfl fun a hK => ?_)
          refine wpList_nil (nm_then ?_)
          refine wp_block ?_
          refine c_loop (fun n a w => ∃ (x131 : Int), K 34 [(0, v2), (1, .int .i64 (classes5)), (5, .int .i64 (x99)), (10, .int .i64 (classes5)), (11, .int .i64 (x99)), (19, .int .i64 (classes5)), (20, .int .i64 (x131))] a ∧ St [] w0 w [] ∧ d_impl_TableOk_L1 fu (d_impl_TableOk_L2 fu pairs1 classes5 m100) pairs1 classes5 x99 n x131 = some r) ?_ ?_ fu _ _ ?_
          · rintro a w ⟨_, _, _, h⟩
            cases (show none = some _ from h)
          · rintro m132 a w130 ⟨x131, hK, hM, h⟩
            rw [d_impl_TableOk_L1_s] at h
            unfold d_impl_TableOk_L1_B at h
            refine wp_seq ?_
            refine wp_region_lit ?_
            refine s1 hK rfl rfl rfl rfl fun a hK => ?_
            refine wpList_nil (nm_then ?_)
            refine wp_seq ?_
            refine c_cond (b := decide (x131 < classes5)) hK rfl (fun hb133 => ?_) (fun hb133 => ?_)
            · have h := bif_t hb133 h
              refine wp_skip (nm_then ?_)
              refine wp_seq ?_
              refine wp_block ?_
              refine wp_seq ?_
              refine wp_region_lit ?_
              iterate 2 (refine s1 hK rfl rfl rfl rfl fun a hK => ?_)
              refine wpList_nil (nm_then ?_)
              refine wp_seq ?_
              refine wp_region_lit ?_
              iterate 3 (refine s1 hK rfl rfl rfl rfl fun a hK => ?_)
              obtain ⟨x134, hx135, h⟩ := obind_some h
              refine s_call hK Tryz.call192 rfl rfl rfl rfl rfl (c_impl_Beside fu _ _ _ (Enc.rd_agr hp4 (hM.a00 (Enc.rd_lt hp4))) hx135) fun e136 w137 hR => ?_
              obtain ⟨rfl, hE⟩ := hR
              refine ⟨_, rfl, fun a hK => ?_⟩
              have hM := hM.step hE
              iterate 3 (refine s1 hK rfl rfl rfl rfl fun a hK => ?_)
              obtain ⟨x138, hx139, h⟩ := obind_some h
              refine s_call hK Tryz.call192 rfl rfl rfl rfl rfl (c_impl_Beside fu _ _ _ (Enc.rd_agr hp4 (hM.a00 (Enc.rd_lt hp4))) hx139) fun e140 w141 hR => ?_
              obtain ⟨rfl, hE⟩ := hR
              refine ⟨_, rfl, fun a hK => ?_⟩
              have hM := hM.step hE
              refine s_val hK rfl rfl rfl (r_neb hK Tryz.underlying4 rfl rfl rfl) fun a hK => ?_
              refine wpList_nil (nm_then ?_)
              refine c_cond (b := !(x134 == x138)) hK rfl (fun hb142 => ?_) (fun hb142 => ?_)
              · have h := bif_t hb142 h
                refine wp_seq ?_
                refine wp_region_lit ?_
                refine s1 hK rfl rfl rfl rfl fun a hK => ?_
                refine wpList_nil (nm_then ?_)
                refine wp_ret (rt_block (rt_then (rt_then (rt_block (rt_block (rt_then (rt_then (rt_block (rt_then ?_)))))))))
                have h := Option.some.inj h
                subst h
                exact finR1 hK rfl (RV.tmp hK rfl) ⟨rfl, hM.ext⟩
              · have h := bif_f hb142 h
                refine wp_skip (nm_block (nm_then ?_))
                refine wp_region_lit ?_
                iterate 2 (refine s1 hK rfl rfl rfl rfl fun a hK => ?_)
                refine wpList_nil (nm_then ?_)
                exact ⟨w64 (x131 + 1), hK.keep [0, 1, 5, 10, 11, 19, 20] rfl, hM.sel [] rfl (by decide), h⟩
            · have h := bif_f hb133 h
              refine wp_exit (ex_then (ex_then (ex_same (nm_block (nm_then ?_)))))
              refine wp_region_lit ?_
              iterate 2 (refine s1 hK rfl rfl rfl rfl fun a hK => ?_)
              refine wpList_nil (nm_then ?_)
              exact ⟨w64 (x99 + 1), hK.keep [0, 1, 10, 11] rfl, hM.sel [] rfl (by decide), h⟩
          · exact ⟨0, hK.keep [0, 1, 5, 10, 11, 19, 20] rfl, hM.sel [] rfl (by decide), h⟩
      · have h := bif_f hb101 h
        refine wp_exit (ex_then (ex_then (ex_same (nm_then ?_))))
        refine wp_seq ?_
        refine wp_region_lit ?_
        refine s1 hK rfl rfl rfl rfl fun a hK => ?_
        refine wpList_nil (nm_then ?_)
        refine wp_ret ?_
        have h := Option.some.inj h
        subst h
        exact finR1 hK rfl (RV.tmp hK rfl) ⟨rfl, hM.ext⟩
    · exact ⟨0, hK.keep [0, 1, 10, 11] rfl, hM.sel [] rfl (by decide), h⟩

theorem c_slices_Sort_int_int (fu : Nat) {w0 : World} (x1 : List Int) {v2 : Value} {F3 : List Nat} (hp4 : ow w0 F3 [v2] x1) {r : List Int}
    (h : d_slices_Sort_int_int fu x1 = some r) :
    Calls Tryz.prog 164 #[v2] w0 fun e w => ∃ H : List Nat, e = .returned (.tuple #[]) ∧ Ext F3 w0 w ∧ (∀ b ∈ H, b ∈ F3 ∨ w0.heap.size ≤ b) ∧ ow w H [v2] r :=
  (c_sortInt (fun blk off cap zs w => Tryz.slices_Sort_int blk off cap zs w) (fun p cap w => Tryz.slices_Sort_int_none p cap w) x1 hp4 h).mono fun e w ⟨h1, h2, h3⟩ => ⟨_, h1, h2, fun b hb => .inl hb, h3⟩

theorem c_impl_Fits (fu : Nat) {w0 : World} (x1 : Item) (t2 : Typ)  {r : Bool}
    (h : d_impl_Fits fu x1 t2 = some r) :
    Calls Tryz.prog 183 #[.agg (Flat.e (x1)).toArray, .agg (Flat.e (t2)).toArray] w0 fun e w => e = .returned (.bool (r)) ∧ Ext [] w0 w := by
  refine enter (vs := [_, _]) Tryz.func183 rfl Tryz.ntmps183 rfl fun a hK => ?_
  have hM := St.start w0
  unfold d_impl_Fits at h
  refine wp_seq ?_
  refine wp_region_lit ?_
  refine s_box (cs := [.int .i64 (x1.fId), .int .i64 (x1.fW), .int .i64 (x1.fH), .int .i64 (x1.fD), .int .i64 (x1.fGram), .int .i64 (x1.fClass), .int .i64 (x1.fCount)]) hM hK rfl rfl rfl rfl rfl rfl fun b3 w5 a hK hM hE hb4 => ?_
  refine s_box (cs := [.int .i64 (t2.fId), .int .i64 (t2.fW), .int .i64 (t2.fH), .int .i64 (t2.fD), .int .i64 (t2.fTare), .int .i64 (t2.fGram), .int .i64 (t2.fCost)]) hM hK rfl rfl rfl rfl rfl rfl fun b6 w8 a hK hM hE hb7 => ?_
  refine s1 hK rfl rfl rfl rfl fun a hK => ?_
  refine wpList_nil (nm_then ?_)
  refine c_cut (fun a w => ∃ (a39 : List Int) (v40 : Value) (F41 : List Nat) (u42 : World) (b44 : List Int) (v45 : Value) (F46 : List Nat) (u47 : World), K 57 [(2, .pointer (some (⟨b3, 0, none⟩ : Addr))), (3, .pointer (some (⟨b6, 0, none⟩ : Addr))), (5, v40), (6, v45)] a ∧ St [] w0 w [([b3], w5), ([b6], w8), (F41, u42), (F46, u47)] ∧ ow u42 F41 [v40] a39 ∧ ow u47 F46 [v45] b44 ∧ d_impl_Fits_J1 fu x1 t2 a39 b44 = some r) ?_ ?_
  · rintro a w38 ⟨a39, v40, F41, u42, b44, v45, F46, u47, hK, hM, hf43, hf48, h⟩
    unfold d_impl_Fits_J1 at h
    refine wp_seq ?_
    refine wp_region_lit ?_
    refine s1 hK rfl rfl rfl rfl fun a hK => ?_
    obtain ⟨x49, hx50, h⟩ := obind_some h
    refine s_call hK Tryz.call164 rfl rfl rfl rfl rfl (c_slices_Sort_int_int fu _ (Enc.ow_agr hf43 (hM.a 2 rfl)) hx50) fun e51 w52 hR => ?_
    obtain ⟨F55, rfl, hE, hlo54, hf53⟩ := hR
    refine ⟨_, rfl, fun a hK => ?_⟩
    have hM := hM.mut 2 rfl hE _ (fun b hb => ⟨hlo54 b hb, Enc.rd_lt (Enc.ow_rd hf53) b hb⟩) (Enc.ow_nd hf53)
    refine wpList_nil (nm_then ?_)
    refine wp_seq ?_
    refine wp_region_lit ?_
    refine s1 hK rfl rfl rfl rfl fun a hK => ?_
    obtain ⟨x56, hx57, h⟩ := obind_some h
    refine s_call hK Tryz.call164 rfl rfl rfl rfl rfl (c_slices_Sort_int_int fu _ (Enc.ow_agr hf48 (hM.a 3 rfl)) hx57) fun e58 w59 hR => ?_
    obtain ⟨F62, rfl, hE, hlo61, hf60⟩ := hR
    refine ⟨_, rfl, fun a hK => ?_⟩
    have hM := hM.mut 3 rfl hE _ (fun b hb => ⟨hlo61 b hb, Enc.rd_lt (Enc.ow_rd hf60) b hb⟩) (Enc.ow_nd hf60)
    refine wpList_nil (nm_then ?_)
    refine wp_seq ?_
    refine d_go [] mixo hM rfl fun w63 hMd => ?_
    have hM := hMd
    have hS := Ext.refl ([] : List Nat) w63
    refine d_pure hK 0 rfl (by kernel_rfl) (by kernel_rfl) (by kernel_rfl) rfl rfl rfl hS (fun _ _ _ h => h) rfl fun a hK => ?_
    obtain ⟨x64, hx65, h⟩ := obind_some h
    refine d_take hK 1 rfl (by kernel_rfl) (by kernel_rfl) (by kernel_rfl) rfl rfl rfl hS (fun _ _ _ h => h) (fun w hS => r_ixa (Enc.ow_rd hf53) hx65 hK ts29 rfl rfl rfl) fun a hK => ?_
    refine d_take hK 2 rfl (by kernel_rfl) (by kernel_rfl) (by kernel_rfl) rfl rfl rfl hS (fun _ _ _ h => h) (fun w hS => r_lde1 (Enc.ow_rd hf53) ((hMd.step hS).a 2 rfl) hx65 0 t13 hK rfl rfl rfl rfl) fun a hK => ?_
    refine d_pure hK 3 rfl (by kernel_rfl) (by kernel_rfl) (by kernel_rfl) rfl rfl rfl hS (fun _ _ _ h => h) rfl fun a hK => ?_
    obtain ⟨x66, hx67, h⟩ := obind_some h
    refine d_take hK 4 rfl (by kernel_rfl) (by kernel_rfl) (by kernel_rfl) rfl rfl rfl hS (fun _ _ _ h => h) (fun w hS => r_ixa (Enc.ow_rd hf60) hx67 hK ts29 rfl rfl rfl) fun a hK => ?_
    refine d_take hK 5 rfl (by kernel_rfl) (by kernel_rfl) (by kernel_rfl) rfl rfl rfl hS (fun _ _ _ h => h) (fun w hS => r_lde1 (Enc.ow_rd hf60) ((hMd.step hS).a 3 rfl) hx67 0 t13 hK rfl rfl rfl rfl) fun a hK => ?_
    refine d_pure hK 6 rfl (by kernel_rfl) (by kernel_rfl) (by kernel_rfl) rfl rfl rfl hS (fun _ _ _ h => h) rfl fun a hK => ?_
    refine d_pure hK 7 rfl (by kernel_rfl) (by kernel_rfl) (by kernel_rfl) rfl rfl rfl hS (fun _ _ _ h => h) rfl fun a hK => ?_
    refine bsplit (decide (x64 ≤ x66)) (fun hb68 => ?_) (fun hb68 => ?_)
    · have h := bif_t hb68 h
      have hK := hK.re (d := 32) rfl (congrArg Value.bool hb68)
      refine d_pure hK 8 rfl (by kernel_rfl) (by kernel_rfl) (by kernel_rfl) rfl rfl rfl hS (fun _ _ _ h => h) rfl fun a hK => ?_
      obtain ⟨x69, hx70, h⟩ := obind_some h
      refine d_take hK 9 rfl (by kernel_rfl) (by kernel_rfl) (by kernel_rfl) rfl rfl rfl hS (fun _ _ _ h => h) (fun w hS => r_ixa (Enc.ow_rd hf53) hx70 hK ts29 rfl rfl rfl) fun a hK => ?_
      refine d_take hK 10 rfl (by kernel_rfl) (by kernel_rfl) (by kernel_rfl) rfl rfl rfl hS (fun _ _ _ h => h) (fun w hS => r_lde1 (Enc.ow_rd hf53) ((hMd.step hS).a 2 rfl) hx70 0 t13 hK rfl rfl rfl rfl) fun a hK => ?_
      refine d_pure hK 11 rfl (by kernel_rfl) (by kernel_rfl) (by kernel_rfl) rfl rfl rfl hS (fun _ _ _ h => h) rfl fun a hK => ?_
      obtain ⟨x71, hx72, h⟩ := obind_some h
      refine d_take hK 12 rfl (by kernel_rfl) (by kernel_rfl) (by kernel_rfl) rfl rfl rfl hS (fun _ _ _ h => h) (fun w hS => r_ixa (Enc.ow_rd hf60) hx72 hK ts29 rfl rfl rfl) fun a hK => ?_
      refine d_take hK 13 rfl (by kernel_rfl) (by kernel_rfl) (by kernel_rfl) rfl rfl rfl hS (fun _ _ _ h => h) (fun w hS => r_lde1 (Enc.ow_rd hf60) ((hMd.step hS).a 3 rfl) hx72 0 t13 hK rfl rfl rfl rfl) fun a hK => ?_
      refine d_pure hK 14 rfl (by kernel_rfl) (by kernel_rfl) (by kernel_rfl) rfl rfl rfl hS (fun _ _ _ h => h) rfl fun a hK => ?_
      refine d_pure hK 15 rfl (by kernel_rfl) (by kernel_rfl) (by kernel_rfl) rfl rfl rfl hS (fun _ _ _ h => h) rfl fun a hK => ?_
      refine d_pure hK 16 rfl (by kernel_rfl) (by kernel_rfl) (by kernel_rfl) rfl rfl rfl hS (fun _ _ _ h => h) rfl fun a hK => ?_
      refine bsplit (decide (x69 ≤ x71)) (fun hb73 => ?_) (fun hb73 => ?_)
      · have h := bif_t hb73 h
        have hK := hK.re (d := 41) rfl (congrArg Value.bool hb73)
        refine d_pure hK 17 rfl (by kernel_rfl) (by kernel_rfl) (by kernel_rfl) rfl rfl rfl hS (fun _ _ _ h => h) rfl fun a hK => ?_
        obtain ⟨x74, hx75, h⟩ := obind_some h
        refine d_take hK 18 rfl (by kernel_rfl) (by kernel_rfl) (by kernel_rfl) rfl rfl rfl hS (fun _ _ _ h => h) (fun w hS => r_ixa (Enc.ow_rd hf53) hx75 hK ts29 rfl rfl rfl) fun a hK => ?_
        refine d_take hK 19 rfl (by kernel_rfl) (by kernel_rfl) (by kernel_rfl) rfl rfl rfl hS (fun _ _ _ h => h) (fun w hS => r_lde1 (Enc.ow_rd hf53) ((hMd.step hS).a 2 rfl) hx75 0 t13 hK rfl rfl rfl rfl) fun a hK => ?_
        refine d_pure hK 20 rfl (by kernel_rfl) (by kernel_rfl) (by kernel_rfl) rfl rfl rfl hS (fun _ _ _ h => h) rfl fun a hK => ?_
        obtain ⟨x76, hx77, h⟩ := obind_some h
        refine d_take hK 21 rfl (by kernel_rfl) (by kernel_rfl) (by kernel_rfl) rfl rfl rfl hS (fun _ _ _ h => h) (fun w hS => r_ixa (Enc.ow_rd hf60) hx77 hK ts29 rfl rfl rfl) fun a hK => ?_
        refine d_take hK 22 rfl (by kernel_rfl) (by kernel_rfl) (by kernel_rfl) rfl rfl rfl hS (fun _ _ _ h => h) (fun w hS => r_lde1 (Enc.ow_rd hf60) ((hMd.step hS).a 3 rfl) hx77 0 t13 hK rfl rfl rfl rfl) fun a hK => ?_
        refine d_pure hK 23 rfl (by kernel_rfl) (by kernel_rfl) (by kernel_rfl) rfl rfl rfl hS (fun _ _ _ h => h) rfl fun a hK => ?_
        refine d_pure hK 24 rfl (by kernel_rfl) (by kernel_rfl) (by kernel_rfl) rfl rfl rfl hS (fun _ _ _ h => h) rfl fun a hK => ?_
        refine d_pure hK 25 rfl (by kernel_rfl) (by kernel_rfl) (by kernel_rfl) rfl rfl rfl hS (fun _ _ _ h => h) rfl fun a hK => ?_
        refine bsplit (decide (x74 ≤ x76)) (fun hb78 => ?_) (fun hb78 => ?_)
        · have h := bif_t hb78 h
          have hK := hK.re (d := 50) rfl (congrArg Value.bool hb78)
          refine d_take hK 26 rfl (by kernel_rfl) (by kernel_rfl) (by kernel_rfl) rfl rfl rfl hS (fun _ _ _ h => h) (fun w hS => r_fa fa120_4 hK rfl rfl) fun a hK => ?_
          refine d_take hK 27 rfl (by kernel_rfl) (by kernel_rfl) (by kernel_rfl) rfl rfl rfl hS (fun _ _ _ h => h) (fun w hS => r_ld1 t13 (r := []) (hb4.at ((hMd.step hS).a 0 rfl) 4 1 rfl rfl rfl) hK rfl rfl) fun a hK => ?_
          refine d_take hK 28 rfl (by kernel_rfl) (by kernel_rfl) (by kernel_rfl) rfl rfl rfl hS (fun _ _ _ h => h) (fun w hS => r_fa fa92_5 hK rfl rfl) fun a hK => ?_
          refine d_take hK 29 rfl (by kernel_rfl) (by kernel_rfl) (by kernel_rfl) rfl rfl rfl hS (fun _ _ _ h => h) (fun w hS => r_ld1 t13 (r := []) (hb7.at ((hMd.step hS).a 1 rfl) 5 1 rfl rfl rfl) hK rfl rfl) fun a hK => ?_
          refine d_pure hK 30 rfl (by kernel_rfl) (by kernel_rfl) (by kernel_rfl) rfl rfl rfl hS (fun _ _ _ h => h) rfl fun a hK => ?_
          refine d_pure hK 31 rfl (by kernel_rfl) (by kernel_rfl) (by kernel_rfl) rfl rfl rfl hS (fun _ _ _ h => h) rfl fun a hK => ?_
          refine d_pure hK 32 rfl (by kernel_rfl) (by kernel_rfl) (by kernel_rfl) rfl rfl rfl hS (fun _ _ _ h => h) rfl fun a hK => ?_
          refine d_done (by kernel_rfl) ?_
          have hK := hK.keep [4] rfl
          refine (nm_then ?_)
          refine wp_ret ?_
          have h := Option.some.inj h
          subst h
          exact finR1 hK rfl (RV.tmp hK rfl) ⟨rfl, hM.ext⟩
        · have h := bif_f hb78 h
          have hK := hK.re (d := 50) rfl (congrArg Value.bool hb78)
          refine d_skip hK 26 rfl (by kernel_rfl) (by kernel_rfl) (by kernel_rfl) rfl rfl rfl hS (fun _ _ _ h => h) fun a hK => ?_
          refine d_skip hK 27 rfl (by kernel_rfl) (by kernel_rfl) (by kernel_rfl) rfl rfl rfl hS (fun _ _ _ h => h) fun a hK => ?_
          refine d_skip hK 28 rfl (by kernel_rfl) (by kernel_rfl) (by kernel_rfl) rfl rfl rfl hS (fun _ _ _ h => h) fun a hK => ?_
          refine d_skip hK 29 rfl (by kernel_rfl) (by kernel_rfl) (by kernel_rfl) rfl rfl rfl hS (fun _ _ _ h => h) fun a hK => ?_
          refine d_skip hK 30 rfl (by kernel_rfl) (by kernel_rfl) (by kernel_rfl) rfl rfl rfl hS (fun _ _ _ h => h) fun a hK => ?_
          refine d_pure hK 31 rfl (by kernel_rfl) (by kernel_rfl) (by kernel_rfl) rfl rfl rfl hS (fun _ _ _ h => h) rfl fun a hK => ?_
          refine d_pure hK 32 rfl (by kernel_rfl) (by kernel_rfl) (by kernel_rfl) rfl rfl rfl hS (fun _ _ _ h => h) rfl fun a hK => ?_
          refine d_done (by kernel_rfl) ?_
          have hK := hK.keep [4] rfl
          refine (nm_then ?_)
          refine wp_ret ?_
          have h := Option.some.inj h
          subst h
          exact finR1 hK rfl (RV.tmp hK rfl) ⟨rfl, hM.ext⟩
      · have h := bif_f hb73 h
        have hK := hK.re (d := 41) rfl (congrArg Value.bool hb73)
        refine d_skip hK 17 rfl (by kernel_rfl) (by kernel_rfl) (by kernel_rfl) rfl rfl rfl hS (fun _ _ _ h => h) fun a hK => ?_
        refine d_skip hK 18 rfl (by kernel_rfl) (by kernel_rfl) (by kernel_rfl) rfl rfl rfl hS (fun _ _ _ h => h) fun a hK => ?_
        refine d_skip hK 19 rfl (by kernel_rfl) (by kernel_rfl) (by kernel_rfl) rfl rfl rfl hS (fun _ _ _ h => h) fun a hK => ?_
        refine d_skip hK 20 rfl (by kernel_rfl) (by kernel_rfl) (by kernel_rfl) rfl rfl rfl hS (fun _ _ _ h => h) fun a hK => ?_
        refine d_skip hK 21 rfl (by kernel_rfl) (by kernel_rfl) (by kernel_rfl) rfl rfl rfl hS (fun _ _ _ h => h) fun a hK => ?_
        refine d_skip hK 22 rfl (by kernel_rfl) (by kernel_rfl) (by kernel_rfl) rfl rfl rfl hS (fun _ _ _ h => h) fun a hK => ?_
        refine d_skip hK 23 rfl (by kernel_rfl) (by kernel_rfl) (by kernel_rfl) rfl rfl rfl hS (fun _ _ _ h => h) fun a hK => ?_
        refine d_pure hK 24 rfl (by kernel_rfl) (by kernel_rfl) (by kernel_rfl) rfl rfl rfl hS (fun _ _ _ h => h) rfl fun a hK => ?_
        refine d_pure hK 25 rfl (by kernel_rfl) (by kernel_rfl) (by kernel_rfl) rfl rfl rfl hS (fun _ _ _ h => h) rfl fun a hK => ?_
        refine d_skip hK 26 rfl (by kernel_rfl) (by kernel_rfl) (by kernel_rfl) rfl rfl rfl hS (fun _ _ _ h => h) fun a hK => ?_
        refine d_skip hK 27 rfl (by kernel_rfl) (by kernel_rfl) (by kernel_rfl) rfl rfl rfl hS (fun _ _ _ h => h) fun a hK => ?_
        refine d_skip hK 28 rfl (by kernel_rfl) (by kernel_rfl) (by kernel_rfl) rfl rfl rfl hS (fun _ _ _ h => h) fun a hK => ?_
        refine d_skip hK 29 rfl (by kernel_rfl) (by kernel_rfl) (by kernel_rfl) rfl rfl rfl hS (fun _ _ _ h => h) fun a hK => ?_
        refine d_skip hK 30 rfl (by kernel_rfl) (by kernel_rfl) (by kernel_rfl) rfl rfl rfl hS (fun _ _ _ h => h) fun a hK => ?_
        refine d_pure hK 31 rfl (by kernel_rfl) (by kernel_rfl) (by kernel_rfl) rfl rfl rfl hS (fun _ _ _ h => h) rfl fun a hK => ?_
        refine d_pure hK 32 rfl (by kernel_rfl) (by kernel_rfl) (by kernel_rfl) rfl rfl rfl hS (fun _ _ _ h => h) rfl fun a hK => ?_
        refine d_done (by kernel_rfl) ?_
        have hK := hK.keep [4] rfl
        refine (nm_then ?_)
        refine wp_ret ?_
        have h := Option.some.inj h
        subst h
        exact finR1 hK rfl (RV.tmp hK rfl) ⟨rfl, hM.ext⟩
    · have h := bif_f hb68 h
      have hK := hK.re (d := 32) rfl (congrArg Value.bool hb68)
      refine d_skip hK 8 rfl (by kernel_rfl) (by kernel_rfl) (by kernel_rfl) rfl rfl rfl hS (fun _ _ _ h => h) fun a hK => ?_
      refine d_skip hK 9 rfl (by kernel_rfl) (by kernel_rfl) (by kernel_rfl) rfl rfl rfl hS (fun _ _ _ h => h) fun a hK => ?_
      refine d_skip hK 10 rfl (by kernel_rfl) (by kernel_rfl) (by kernel_rfl) rfl rfl rfl hS (fun _ _ _ h => h) fun a hK => ?_
      refine d_skip hK 11 rfl (by kernel_rfl) (by kernel_rfl) (by kernel_rfl) rfl rfl rfl hS (fun _ _ _ h => h) fun a hK => ?_
      refine d_skip hK 12 rfl (by kernel_rfl) (by kernel_rfl) (by kernel_rfl) rfl rfl rfl hS (fun _ _ _ h => h) fun a hK => ?_
      refine d_skip hK 13 rfl (by kernel_rfl) (by kernel_rfl) (by kernel_rfl) rfl rfl rfl hS (fun _ _ _ h => h) fun a hK => ?_
      refine d_skip hK 14 rfl (by kernel_rfl) (by kernel_rfl) (by kernel_rfl) rfl rfl rfl hS (fun _ _ _ h => h) fun a hK => ?_
      refine d_pure hK 15 rfl (by kernel_rfl) (by kernel_rfl) (by kernel_rfl) rfl rfl rfl hS (fun _ _ _ h => h) rfl fun a hK => ?_
      refine d_pure hK 16 rfl (by kernel_rfl) (by kernel_rfl) (by kernel_rfl) rfl rfl rfl hS (fun _ _ _ h => h) rfl fun a hK => ?_
      refine d_skip hK 17 rfl (by kernel_rfl) (by kernel_rfl) (by kernel_rfl) rfl rfl rfl hS (fun _ _ _ h => h) fun a hK => ?_
      refine d_skip hK 18 rfl (by kernel_rfl) (by kernel_rfl) (by kernel_rfl) rfl rfl rfl hS (fun _ _ _ h => h) fun a hK => ?_
      refine d_skip hK 19 rfl (by kernel_rfl) (by kernel_rfl) (by kernel_rfl) rfl rfl rfl hS (fun _ _ _ h => h) fun a hK => ?_
      refine d_skip hK 20 rfl (by kernel_rfl) (by kernel_rfl) (by kernel_rfl) rfl rfl rfl hS (fun _ _ _ h => h) fun a hK => ?_
      refine d_skip hK 21 rfl (by kernel_rfl) (by kernel_rfl) (by kernel_rfl) rfl rfl rfl hS (fun _ _ _ h => h) fun a hK => ?_
      refine d_skip hK 22 rfl (by kernel_rfl) (by kernel_rfl) (by kernel_rfl) rfl rfl rfl hS (fun _ _ _ h => h) fun a hK => ?_
      refine d_skip hK 23 rfl (by kernel_rfl) (by kernel_rfl) (by kernel_rfl) rfl rfl rfl hS (fun _ _ _ h => h) fun a hK => ?_
      refine d_pure hK 24 rfl (by kernel_rfl) (by kernel_rfl) (by kernel_rfl) rfl rfl rfl hS (fun _ _ _ h => h) rfl fun a hK => ?_
      refine d_pure hK 25 rfl (by kernel_rfl) (by kernel_rfl) (by kernel_rfl) rfl rfl rfl hS (fun _ _ _ h => h) rfl fun a hK => ?_
      refine d_skip hK 26 rfl (by kernel_rfl) (by kernel_rfl) (by kernel_rfl) rfl rfl rfl hS (fun _ _ _ h => h) fun a hK => ?_
      refine d_skip hK 27 rfl (by kernel_rfl) (by kernel_rfl) (by kernel_rfl) rfl rfl rfl hS (fun _ _ _ h => h) fun a hK => ?_
      refine d_skip hK 28 rfl (by kernel_rfl) (by kernel_rfl) (by kernel_rfl) rfl rfl rfl hS (fun _ _ _ h => h) fun a hK => ?_
      refine d_skip hK 29 rfl (by kernel_rfl) (by kernel_rfl) (by kernel_rfl) rfl rfl rfl hS (fun _ _ _ h => h) fun a hK => ?_
      refine d_skip hK 30 rfl (by kernel_rfl) (by kernel_rfl) (by kernel_rfl) rfl rfl rfl hS (fun _ _ _ h => h) fun a hK => ?_
      refine d_pure hK 31 rfl (by kernel_rfl) (by kernel_rfl) (by kernel_rfl) rfl rfl rfl hS (fun _ _ _ h => h) rfl fun a hK => ?_
      refine d_pure hK 32 rfl (by kernel_rfl) (by kernel_rfl) (by kernel_rfl) rfl rfl rfl hS (fun _ _ _ h => h) rfl fun a hK => ?_
      refine d_done (by kernel_rfl) ?_
      have hK := hK.keep [4] rfl
      refine (nm_then ?_)
      refine wp_ret ?_
      have h := Option.some.inj h
      subst h
      exact finR1 hK rfl (RV.tmp hK rfl) ⟨rfl, hM.ext⟩
  · refine d_go [] mixo hM rfl fun w79 hMd => ?_
    have hM := hMd
    have hS := Ext.refl ([] : List Nat) w79
    refine d_take hK 0 rfl (by kernel_rfl) (by kernel_rfl) (by kernel_rfl) rfl rfl rfl hS (fun _ _ _ h => h) (fun w hS => r_fa fa120_1 hK rfl rfl) fun a hK => ?_
    refine d_take hK 1 rfl (by kernel_rfl) (by kernel_rfl) (by kernel_rfl) rfl rfl rfl hS (fun _ _ _ h => h) (fun w hS => r_ld1 t13 (r := []) (hb4.at ((hMd.step hS).a 1 rfl) 1 1 rfl rfl rfl) hK rfl rfl) fun a hK => ?_
    refine d_take hK 2 rfl (by kernel_rfl) (by kernel_rfl) (by kernel_rfl) rfl rfl rfl hS (fun _ _ _ h => h) (fun w hS => r_fa fa120_2 hK rfl rfl) fun a hK => ?_
    refine d_take hK 3 rfl (by kernel_rfl) (by kernel_rfl) (by kernel_rfl) rfl rfl rfl hS (fun _ _ _ h => h) (fun w hS => r_ld1 t13 (r := []) (hb4.at ((hMd.step hS).a 1 rfl) 2 1 rfl rfl rfl) hK rfl rfl) fun a hK => ?_
    refine d_take hK 4 rfl (by kernel_rfl) (by kernel_rfl) (by kernel_rfl) rfl rfl rfl hS (fun _ _ _ h => h) (fun w hS => r_fa fa120_3 hK rfl rfl) fun a hK => ?_
    refine d_take hK 5 rfl (by kernel_rfl) (by kernel_rfl) (by kernel_rfl) rfl rfl rfl hS (fun _ _ _ h => h) (fun w hS => r_ld1 t13 (r := []) (hb4.at ((hMd.step hS).a 1 rfl) 3 1 rfl rfl rfl) hK rfl rfl) fun a hK => ?_
    refine d_take hK 7 rfl (by kernel_rfl) (by kernel_rfl) (by kernel_rfl) rfl rfl rfl hS (fun _ _ _ h => h) (fun w hS => r_fa fa92_1 hK rfl rfl) fun a hK => ?_
    refine d_take hK 8 rfl (by kernel_rfl) (by kernel_rfl) (by kernel_rfl) rfl rfl rfl hS (fun _ _ _ h => h) (fun w hS => r_ld1 t13 (r := []) (hb7.at ((hMd.step hS).a 0 rfl) 1 1 rfl rfl rfl) hK rfl rfl) fun a hK => ?_
    refine d_take hK 9 rfl (by kernel_rfl) (by kernel_rfl) (by kernel_rfl) rfl rfl rfl hS (fun _ _ _ h => h) (fun w hS => r_fa fa92_2 hK rfl rfl) fun a hK => ?_
    refine d_take hK 10 rfl (by kernel_rfl) (by kernel_rfl) (by kernel_rfl) rfl rfl rfl hS (fun _ _ _ h => h) (fun w hS => r_ld1 t13 (r := []) (hb7.at ((hMd.step hS).a 0 rfl) 2 1 rfl rfl rfl) hK rfl rfl) fun a hK => ?_
    refine d_take hK 11 rfl (by kernel_rfl) (by kernel_rfl) (by kernel_rfl) rfl rfl rfl hS (fun _ _ _ h => h) (fun w hS => r_fa fa92_3 hK rfl rfl) fun a hK => ?_
    refine d_take hK 12 rfl (by kernel_rfl) (by kernel_rfl) (by kernel_rfl) rfl rfl rfl hS (fun _ _ _ h => h) (fun w hS => r_ld1 t13 (r := []) (hb7.at ((hMd.step hS).a 0 rfl) 3 1 rfl rfl rfl) hK rfl rfl) fun a hK => ?_
    refine d_two 6 13 (by kernel_rfl) rfl rfl ?_ ?_ 
    · refine s_bsN (cs := [.int .i64 (x1.fW), .int .i64 (x1.fH), .int .i64 (x1.fD)]) (ps := [(0, .tmp 8), (1, .tmp 10), (2, .tmp 12)]) te29 hM hK rfl rfl rfl rfl rfl rfl rfl (by decide) rfl (by exact (List.forall_mem_cons.2 ⟨rfl, (List.forall_mem_cons.2 ⟨rfl, (List.forall_mem_cons.2 ⟨rfl, (List.forall_mem_nil _)⟩)⟩)⟩)) fun g80 w81 e83 a hK hM hE hb82 hgn84 => ?_
      have hlo86 := lo1 (Nat.le_trans hS.size hgn84)
      have hf85 := ow_bx hb82 ([x1.fW, x1.fH, x1.fD] : List Int) rfl rfl rfl
      have hS := hS.trans hE (by simp)
      refine wpList_nil ⟨hS, ?_⟩
      refine d_pure hK 14 rfl (by kernel_rfl) (by kernel_rfl) (by kernel_rfl) rfl rfl rfl hS (fun _ _ _ h => h) rfl fun a hK => ?_
      refine d_one 13 (by kernel_rfl) rfl ?_
      refine s_bsN (cs := [.int .i64 (t2.fW), .int .i64 (t2.fH), .int .i64 (t2.fD)]) (ps := [(0, .tmp 15), (1, .tmp 17), (2, .tmp 19)]) te29 hM hK rfl rfl rfl rfl rfl rfl rfl (by decide) rfl (by exact (List.forall_mem_cons.2 ⟨rfl, (List.forall_mem_cons.2 ⟨rfl, (List.forall_mem_cons.2 ⟨rfl, (List.forall_mem_nil _)⟩)⟩)⟩)) fun g87 w88 e90 a hK hM hE hb89 hgn91 => ?_
      have hlo93 := lo1 (Nat.le_trans hS.size hgn91)
      have hf92 := ow_bx hb89 ([t2.fW, t2.fH, t2.fD] : List Int) rfl rfl rfl
      have hS := hS.trans hE (by simp)
      refine wpList_nil ⟨hS, ?_⟩
      refine d_pure hK 15 rfl (by kernel_rfl) (by kernel_rfl) (by kernel_rfl) rfl rfl rfl hS (fun _ _ _ h => h) rfl fun a hK => ?_
      refine d_done (by kernel_rfl) ?_
      refine (nm_then ?_)
      exact ⟨([x1.fW, x1.fH, x1.fD] : List Int), (.slice (some ⟨g80, 0, none⟩) 3 3), [g80], w81, ([t2.fW, t2.fH, t2.fD] : List Int), (.slice (some ⟨g87, 0, none⟩) 3 3), [g87], w88, hK.keep [2, 3, 5, 6] rfl, hM.sel [3, 2, 1, 0] rfl (by decide), hf85, hf92, h⟩
    · refine s_bsN (cs := [.int .i64 (t2.fW), .int .i64 (t2.fH), .int .i64 (t2.fD)]) (ps := [(0, .tmp 15), (1, .tmp 17), (2, .tmp 19)]) te29 hM hK rfl rfl rfl rfl rfl rfl rfl (by decide) rfl (by exact (List.forall_mem_cons.2 ⟨rfl, (List.forall_mem_cons.2 ⟨rfl, (List.forall_mem_cons.2 ⟨rfl, (List.forall_mem_nil _)⟩)⟩)⟩)) fun g94 w95 e97 a hK hM hE hb96 hgn98 => ?_
      have hlo100 := lo1 (Nat.le_trans hS.size hgn98)
      have hf99 := ow_bx hb96 ([t2.fW, t2.fH, t2.fD] : List Int) rfl rfl rfl
      have hS := hS.trans hE (by simp)
      refine wpList_nil ⟨hS, ?_⟩
      refine d_one 6 (by kernel_rfl) rfl ?_
      refine s_bsN (cs := [.int .i64 (x1.fW), .int .i64 (x1.fH), .int .i64 (x1.fD)]) (ps := [(0, .tmp 8), (1, .tmp 10), (2, .tmp 12)]) te29 hM hK rfl rfl rfl rfl rfl rfl rfl (by decide) rfl (by exact (List.forall_mem_cons.2 ⟨rfl, (List.forall_mem_cons.2 ⟨rfl, (List.forall_mem_cons.2 ⟨rfl, (List.forall_mem_nil _)⟩)⟩)⟩)) fun g101 w102 e104 a hK hM hE hb103 hgn105 => ?_
      have hlo107 := lo1 (Nat.le_trans hS.size hgn105)
      have hf106 := ow_bx hb103 ([x1.fW, x1.fH, x1.fD] : List Int) rfl rfl rfl
      have hS := hS.trans hE (by simp)
      refine wpList_nil ⟨hS, ?_⟩
      refine d_pure hK 14 rfl (by kernel_rfl) (by kernel_rfl) (by kernel_rfl) rfl rfl rfl hS (fun _ _ _ h => h) rfl fun a hK => ?_
      refine d_pure hK 15 rfl (by kernel_rfl) (by kernel_rfl) (by kernel_rfl) rfl rfl rfl hS (fun _ _ _ h => h) rfl fun a hK => ?_
      refine d_done (by kernel_rfl) ?_
      refine (nm_then ?_)
      exact ⟨([x1.fW, x1.fH, x1.fD] : List Int), (.slice (some ⟨g101, 0, none⟩) 3 3), [g101], w102, ([t2.fW, t2.fH, t2.fD] : List Int), (.slice (some ⟨g94, 0, none⟩) 3 3), [g94], w95, hK.keep [2, 3, 5, 6] rfl, hM.sel [3, 2, 0, 1] rfl (by decide), hf106, hf99, h⟩

theorem c_impl_Class_1 (fu : Nat) {w0 : World} (x1 : Item) (x2 : Typ) {b3 : Nat} (hp4 : bx w0 b3 [.int .i64 (x2.fId), .int .i64 (x2.fW), .int .i64 (x2.fH), .int .i64 (x2.fD), .int .i64 (x2.fTare), .int .i64 (x2.fGram), .int .i64 (x2.fCost)] 92) {r : Bool}
    (h : d_impl_Class_1 fu x1 x2 = some r) :
    Calls Tryz.prog 182 #[.agg (Flat.e (x1)).toArray, .pointer (some (⟨b3, 0, none⟩ : Addr))] w0 fun e w => e = .returned (.bool (r)) ∧ Ext [] w0 w := by
  refine enter (vs := [_, _]) Tryz.func182 rfl Tryz.ntmps182 rfl fun a hK => ?_
  have hM := St.start w0
  unfold d_impl_Class_1 at h
  refine wp_seq ?_
  refine wp_region_lit ?_
  refine s_box (cs := [.int .i64 (x1.fId), .int .i64 (x1.fW), .int .i64 (x1.fH), .int .i64 (x1.fD), .int .i64 (x1.fGram), .int .i64 (x1.fClass), .int .i64 (x1.fCount)]) hM hK rfl rfl rfl rfl rfl rfl fun b5 w7 a hK hM hE hb6 => ?_
  refine s1 hK rfl rfl rfl rfl fun a hK => ?_
  refine wpList_nil (nm_then ?_)
  refine wp_seq ?_
  refine wp_region_lit ?_
  refine s_val hK rfl rfl rfl (r_ldB ta120 hM 0 hb6 0 hK rfl rfl rfl rfl rfl rfl) fun a hK => ?_
  refine s_val hK rfl rfl rfl (r_ldA ta92 (hp4.at (hM.a00 hp4.lt1) 0 7 rfl rfl rfl) rfl hK rfl rfl) fun a hK => ?_
  obtain ⟨x8, hx9, h⟩ := obind_some h
  refine s_call hK Tryz.call183 rfl rfl rfl rfl rfl (c_impl_Fits fu (x1 : Item) (x2 : Typ)  hx9) fun e10 w11 hR => ?_
  obtain ⟨rfl, hE⟩ := hR
  refine ⟨_, rfl, fun a hK => ?_⟩
  have hM := hM.step hE
  iterate 2 (refine s1 hK rfl rfl rfl rfl fun a hK => ?_)
  refine wpList_nil (nm_then ?_)
  refine wp_ret ?_
  have h := Option.some.inj h
  subst h
  exact finR1 hK rfl (RV.tmp hK rfl) ⟨rfl, hM.ext⟩

theorem c_impl_Class_2 (fu : Nat) {w0 : World} (t1 : Typ) (x2 : Pallet) {b3 : Nat} (hp4 : bx w0 b3 [.int .i64 (x2.fW), .int .i64 (x2.fD), .int .i64 (x2.fH), .int .i64 (x2.fGram)] 35) {r : Bool}
    (h : d_impl_Class_2 fu t1 x2 = some r) :
    Calls Tryz.prog 185 #[.agg (Flat.e (t1)).toArray, .pointer (some (⟨b3, 0, none⟩ : Addr))] w0 fun e w => e = .returned (.bool (r)) ∧ Ext [] w0 w := by
  refine enter (vs := [_, _]) Tryz.func185 rfl Tryz.ntmps185 rfl fun a hK => ?_
  have hM := St.start w0
  unfold d_impl_Class_2 at h
  refine wp_seq ?_
  refine wp_region_lit ?_
  refine s_box (cs := [.int .i64 (t1.fId), .int .i64 (t1.fW), .int .i64 (t1.fH), .int .i64 (t1.fD), .int .i64 (t1.fTare), .int .i64 (t1.fGram), .int .i64 (t1.fCost)]) hM hK rfl rfl rfl rfl rfl rfl fun b5 w7 a hK hM hE hb6 => ?_
  refine s1 hK rfl rfl rfl rfl fun a hK => ?_
  refine wpList_nil (nm_then ?_)
  refine wp_seq ?_
  refine wp_region_lit ?_
  refine s_val hK rfl rfl rfl (r_fa fa92_1 hK rfl rfl) fun a hK => ?_
  refine s_val hK rfl rfl rfl (r_ldb t13 hM 0 hb6 1 hK rfl rfl rfl rfl rfl) fun a hK => ?_
  refine s_val hK rfl rfl rfl (r_fa fa35_0 hK rfl rfl) fun a hK => ?_
  refine s_val hK rfl rfl rfl (r_ld1 t13 (r := []) (hp4.at (hM.a00 hp4.lt1) 0 1 rfl rfl rfl) hK rfl rfl) fun a hK => ?_
  iterate 2 (refine s1 hK rfl rfl rfl rfl fun a hK => ?_)
  refine bsplit (decide (t1.fW > x2.fW)) (fun hb8 => ?_) (fun hb8 => ?_)
  · have h := bif_t hb8 h
    have hK := hK.re (d := 9) rfl (congrArg Value.bool hb8)
    refine sk hK rfl rfl rfl fun a hK => ?_
    refine sk hK rfl rfl rfl fun a hK => ?_
    refine sk hK rfl rfl rfl fun a hK => ?_
    refine sk hK rfl rfl rfl fun a hK => ?_
    refine sk hK rfl rfl rfl fun a hK => ?_
    iterate 2 (refine s1 hK rfl rfl rfl rfl fun a hK => ?_)
    refine sk hK rfl rfl rfl fun a hK => ?_
    refine sk hK rfl rfl rfl fun a hK => ?_
    refine sk hK rfl rfl rfl fun a hK => ?_
    refine sk hK rfl rfl rfl fun a hK => ?_
    refine sk hK rfl rfl rfl fun a hK => ?_
    iterate 2 (refine s1 hK rfl rfl rfl rfl fun a hK => ?_)
    refine sk hK rfl rfl rfl fun a hK => ?_
    refine sk hK rfl rfl rfl fun a hK => ?_
    refine sk hK rfl rfl rfl fun a hK => ?_
    refine sk hK rfl rfl rfl fun a hK => ?_
    refine sk hK rfl rfl rfl fun a hK => ?_
    refine sk hK rfl rfl rfl fun a hK => ?_
    refine sk hK rfl rfl rfl fun a hK => ?_
    refine sk hK rfl rfl rfl fun a hK => ?_
    iterate 2 (refine s1 hK rfl rfl rfl rfl fun a hK => ?_)
    have hK := hK.keep [3] rfl
    refine wpList_nil (nm_then ?_)
    refine wp_ret ?_
    have h := Option.some.inj h
    subst h
    exact finR1 hK rfl (RV.tmp hK rfl) ⟨rfl, hM.ext⟩
  · have h := bif_f hb8 h
    have hK := hK.re (d := 9) rfl (congrArg Value.bool hb8)
    refine s_val hK rfl rfl rfl (r_fa fa92_3 hK rfl rfl) fun a hK => ?_
    refine s_val hK rfl rfl rfl (r_ldb t13 hM 0 hb6 3 hK rfl rfl rfl rfl rfl) fun a hK => ?_
    refine s_val hK rfl rfl rfl (r_fa fa35_1 hK rfl rfl) fun a hK => ?_
    refine s_val hK rfl rfl rfl (r_ld1 t13 (r := []) (hp4.at (hM.a00 hp4.lt1) 1 1 rfl rfl rfl) hK rfl rfl) fun a hK => ?_
    iterate 3 (refine s1 hK rfl rfl rfl rfl fun a hK => ?_)
    refine bsplit (decide (t1.fD > x2.fD)) (fun hb9 => ?_) (fun hb9 => ?_)
    · have h := bif_t hb9 h
      have hK := hK.re (d := 16) rfl (congrArg Value.bool hb9)
      refine sk hK rfl rfl rfl fun a hK => ?_
      refine sk hK rfl rfl rfl fun a hK => ?_
      refine sk hK rfl rfl rfl fun a hK => ?_
      refine sk hK rfl rfl rfl fun a hK => ?_
      refine sk hK rfl rfl rfl fun a hK => ?_
      iterate 2 (refine s1 hK rfl rfl rfl rfl fun a hK => ?_)
      refine sk hK rfl rfl rfl fun a hK => ?_
      refine sk hK rfl rfl rfl fun a hK => ?_
      refine sk hK rfl rfl rfl fun a hK => ?_
      refine sk hK rfl rfl rfl fun a hK => ?_
      refine sk hK rfl rfl rfl fun a hK => ?_
      refine sk hK rfl rfl rfl fun a hK => ?_
      refine sk hK rfl rfl rfl fun a hK => ?_
      refine sk hK rfl rfl rfl fun a hK => ?_
      iterate 2 (refine s1 hK rfl rfl rfl rfl fun a hK => ?_)
      have hK := hK.keep [3] rfl
      refine wpList_nil (nm_then ?_)
      refine wp_ret ?_
      have h := Option.some.inj h
      subst h
      exact finR1 hK rfl (RV.tmp hK rfl) ⟨rfl, hM.ext⟩
    · have h := bif_f hb9 h
      have hK := hK.re (d := 16) rfl (congrArg Value.bool hb9)
      refine s_val hK rfl rfl rfl (r_fa fa92_2 hK rfl rfl) fun a hK => ?_
      refine s_val hK rfl rfl rfl (r_ldb t13 hM 0 hb6 2 hK rfl rfl rfl rfl rfl) fun a hK => ?_
      refine s_val hK rfl rfl rfl (r_fa fa35_2 hK rfl rfl) fun a hK => ?_
      refine s_val hK rfl rfl rfl (r_ld1 t13 (r := []) (hp4.at (hM.a00 hp4.lt1) 2 1 rfl rfl rfl) hK rfl rfl) fun a hK => ?_
      iterate 3 (refine s1 hK rfl rfl rfl rfl fun a hK => ?_)
      refine bsplit (decide (t1.fH > x2.fH)) (fun hb10 => ?_) (fun hb10 => ?_)
      · have h := bif_t hb10 h
        have hK := hK.re (d := 23) rfl (congrArg Value.bool hb10)
        refine sk hK rfl rfl rfl fun a hK => ?_
        refine sk hK rfl rfl rfl fun a hK => ?_
        refine sk hK rfl rfl rfl fun a hK => ?_
        refine sk hK rfl rfl rfl fun a hK => ?_
        refine sk hK rfl rfl rfl fun a hK => ?_
        refine sk hK rfl rfl rfl fun a hK => ?_
        refine sk hK rfl rfl rfl fun a hK => ?_
        refine sk hK rfl rfl rfl fun a hK => ?_
        iterate 2 (refine s1 hK rfl rfl rfl rfl fun a hK => ?_)
        have hK := hK.keep [3] rfl
        refine wpList_nil (nm_then ?_)
        refine wp_ret ?_
        have h := Option.some.inj h
        subst h
        exact finR1 hK rfl (RV.tmp hK rfl) ⟨rfl, hM.ext⟩
      · have h := bif_f hb10 h
        have hK := hK.re (d := 23) rfl (congrArg Value.bool hb10)
        refine s_val hK rfl rfl rfl (r_fa fa92_4 hK rfl rfl) fun a hK => ?_
        refine s_val hK rfl rfl rfl (r_ldb t13 hM 0 hb6 4 hK rfl rfl rfl rfl rfl) fun a hK => ?_
        refine s_val hK rfl rfl rfl (r_fa fa92_5 hK rfl rfl) fun a hK => ?_
        refine s_val hK rfl rfl rfl (r_ldb t13 hM 0 hb6 5 hK rfl rfl rfl rfl rfl) fun a hK => ?_
        refine s1 hK rfl rfl rfl rfl fun a hK => ?_
        refine s_val hK rfl rfl rfl (r_fa fa35_3 hK rfl rfl) fun a hK => ?_
        refine s_val hK rfl rfl rfl (r_ld1 t13 (r := []) (hp4.at (hM.a00 hp4.lt1) 3 1 rfl rfl rfl) hK rfl rfl) fun a hK => ?_
        iterate 3 (refine s1 hK rfl rfl rfl rfl fun a hK => ?_)
        have hK := hK.keep [3] rfl
        refine wpList_nil (nm_then ?_)
        refine wp_ret ?_
        have h := Option.some.inj h
        subst h
        exact finR1 hK rfl (RV.tmp hK rfl) ⟨rfl, hM.ext⟩

theorem c_impl_Class (fu : Nat) {w0 : World} (r1 : Request) {cs2 : List Value} {F3 : List Nat} (hp4 : rd w0 F3 cs2 r1) {r : Int}
    (h : d_impl_Class fu r1 = some r) :
    Calls Tryz.prog 142 #[.agg cs2.toArray] w0 fun e w => e = .returned (.int .i64 (r)) ∧ Ext [] w0 w := by
  refine enter (vs := [_]) Tryz.func142 rfl Tryz.ntmps142 rfl fun a hK => ?_
  have hM := St.start w0
  obtain ⟨v5, F6, v7, F8, v9, F10, rfl, rfl, hf11, hf12, hf13⟩ := hp4
  unfold d_impl_Class at h
  refine wp_seq ?_
  refine wp_region_lit ?_
  refine s_box (cs := [.int .i64 (r1.fWay), .int .i64 (r1.fPallet.fW), .int .i64 (r1.fPallet.fD), .int .i64 (r1.fPallet.fH), .int .i64 (r1.fPallet.fGram), .int .i64 (r1.fClasses), v5, v7, .int .i64 (r1.fMaster), v9]) hM hK rfl rfl rfl rfl rfl rfl fun b14 w16 a hK hM hE hb15 => ?_
  refine s1 hK rfl rfl rfl rfl fun a hK => ?_
  refine wpList_nil (nm_then ?_)
  refine wp_seq ?_
  refine wp_region_lit ?_
  refine s_val hK rfl rfl rfl (r_ldB ta40 hM 0 hb15 0 hK rfl rfl rfl rfl rfl rfl) fun a hK => ?_
  obtain ⟨x17, hx18, h⟩ := obind_some h
  refine s_call hK Tryz.call148 rfl rfl rfl rfl rfl (c_impl_MasterOf fu _ (show rd _ _ [.int .i64 (r1.fWay), .int .i64 (r1.fPallet.fW), .int .i64 (r1.fPallet.fD), .int .i64 (r1.fPallet.fH), .int .i64 (r1.fPallet.fGram), .int .i64 (r1.fClasses), v5, v7, .int .i64 (r1.fMaster), v9] (r1 : Request) from ⟨_, _, _, _, _, _, rfl, rfl, (Enc.rd_agr hf11 (hM.a00 (Enc.rd_lt hf11))), (Enc.rd_agr hf12 (hM.a00 (Enc.rd_lt hf12))), (Enc.rd_agr hf13 (hM.a00 (Enc.rd_lt hf13)))⟩) hx18) fun e19 w20 hR => ?_
  obtain ⟨rfl, hE⟩ := hR
  refine ⟨_, rfl, fun a hK => ?_⟩
  have hM := hM.step hE
  iterate 3 (refine s1 hK rfl rfl rfl rfl fun a hK => ?_)
  refine s_alloc (cs := [.int .i64 (0), .int .i64 (0), .int .i64 (0), .int .i64 (0), .int .i64 (0), .int .i64 (0), .int .i64 (0)]) hM hK Tryz.zeroValue92 rfl rfl rfl rfl rfl fun b21 w23 a hK hM hE hb22 => ?_
  refine s_stb (cs' := [.int .i64 (x17.1.fId), .int .i64 (x17.1.fW), .int .i64 (x17.1.fH), .int .i64 (x17.1.fD), .int .i64 (x17.1.fTare), .int .i64 (x17.1.fGram), .int .i64 (x17.1.fCost)]) Tryz.sizeOf92 hM 0 hb22 0 hK rfl rfl rfl rfl rfl rfl rfl rfl rfl rfl rfl fun w24 a hK hE hM hb25 => ?_
  refine s1 hK rfl rfl rfl rfl fun a hK => ?_
  refine wpList_nil (nm_then ?_)
  refine wp_seq ?_
  refine wp_region_lit ?_
  refine s_val hK rfl rfl rfl (r_fa fa40_1 hK rfl rfl) fun a hK => ?_
  refine s_val hK rfl rfl rfl (r_ldB ta35 hM 1 hb15 1 hK rfl rfl rfl rfl rfl rfl) fun a hK => ?_
  refine s_alloc (cs := [.int .i64 (0), .int .i64 (0), .int .i64 (0), .int .i64 (0)]) hM hK Tryz.zeroValue35 rfl rfl rfl rfl rfl fun b26 w28 a hK hM hE hb27 => ?_
  refine s_stb (cs' := [.int .i64 (r1.fPallet.fW), .int .i64 (r1.fPallet.fD), .int .i64 (r1.fPallet.fH), .int .i64 (r1.fPallet.fGram)]) Tryz.sizeOf35 hM 0 hb27 0 hK rfl rfl rfl rfl rfl rfl rfl rfl rfl rfl rfl fun w29 a hK hE hM hb30 => ?_
  refine wpList_nil (nm_then ?_)
  refine wp_seq ?_
  refine wp_block ?_
  refine wp_seq ?_
  refine wp_region_lit ?_
  refine s_val hK rfl rfl rfl (r_ldB ta40 hM 2 hb15 0 hK rfl rfl rfl rfl rfl rfl) fun a hK => ?_
  obtain ⟨x31, hx32, h⟩ := obind_some h
  refine s_call hK Tryz.call179 rfl rfl rfl rfl rfl (c_impl_BoundsOk fu _ (show rd _ _ [.int .i64 (r1.fWay), .int .i64 (r1.fPallet.fW), .int .i64 (r1.fPallet.fD), .int .i64 (r1.fPallet.fH), .int .i64 (r1.fPallet.fGram), .int .i64 (r1.fClasses), v5, v7, .int .i64 (r1.fMaster), v9] (r1 : Request) from ⟨_, _, _, _, _, _, rfl, rfl, (Enc.rd_agr hf11 (hM.a00 (Enc.rd_lt hf11))), (Enc.rd_agr hf12 (hM.a00 (Enc.rd_lt hf12))), (Enc.rd_agr hf13 (hM.a00 (Enc.rd_lt hf13)))⟩) hx32) fun e33 w34 hR => ?_
  obtain ⟨rfl, hE⟩ := hR
  refine ⟨_, rfl, fun a hK => ?_⟩
  have hM := hM.step hE
  iterate 2 (refine s1 hK rfl rfl rfl rfl fun a hK => ?_)
  refine wpList_nil (nm_then ?_)
  refine c_cond (b := !x31) hK rfl (fun hb35 => ?_) (fun hb35 => ?_)
  · have h := bif_t hb35 h
    refine wp_seq ?_
    refine wp_region_lit ?_
    refine s1 hK rfl rfl rfl rfl fun a hK => ?_
    refine wpList_nil (nm_then ?_)
    refine wp_ret (rt_block (rt_then ?_))
    have h := Option.some.inj h
    subst h
    exact finR1 hK rfl (RV.tmp hK rfl) ⟨rfl, hM.ext⟩
  · have h := bif_f hb35 h
    refine wp_seq ?_
    refine wp_region_lit ?_
    refine s_val hK rfl rfl rfl (r_ldB ta40 hM 2 hb15 0 hK rfl rfl rfl rfl rfl rfl) fun a hK => ?_
    obtain ⟨x36, hx37, h⟩ := obind_some h
    refine s_call hK Tryz.call180 rfl rfl rfl rfl rfl (c_impl_namesOk fu _ (show rd _ _ [.int .i64 (r1.fWay), .int .i64 (r1.fPallet.fW), .int .i64 (r1.fPallet.fD), .int .i64 (r1.fPallet.fH), .int .i64 (r1.fPallet.fGram), .int .i64 (r1.fClasses), v5, v7, .int .i64 (r1.fMaster), v9] (r1 : Request) from ⟨_, _, _, _, _, _, rfl, rfl, (Enc.rd_agr hf11 (hM.a00 (Enc.rd_lt hf11))), (Enc.rd_agr hf12 (hM.a00 (Enc.rd_lt hf12))), (Enc.rd_agr hf13 (hM.a00 (Enc.rd_lt hf13)))⟩) hx37) fun e38 w39 hR => ?_
    obtain ⟨rfl, hE⟩ := hR
    refine ⟨_, rfl, fun a hK => ?_⟩
    have hM := hM.step hE
    iterate 2 (refine s1 hK rfl rfl rfl rfl fun a hK => ?_)
    refine wpList_nil (nm_then ?_)
    refine c_cond (b := !x36) hK rfl (fun hb40 => ?_) (fun hb40 => ?_)
    · have h := bif_t hb40 h
      refine wp_seq ?_
      refine wp_region_lit ?_
      refine s1 hK rfl rfl rfl rfl fun a hK => ?_
      refine wpList_nil (nm_then ?_)
      refine wp_ret (rt_block (rt_then ?_))
      have h := Option.some.inj h
      subst h
      exact finR1 hK rfl (RV.tmp hK rfl) ⟨rfl, hM.ext⟩
    · have h := bif_f hb40 h
      refine wp_seq ?_
      refine wp_region_lit ?_
      refine s_val hK rfl rfl rfl (r_fa fa40_3 hK rfl rfl) fun a hK => ?_
      refine s_val hK rfl rfl rfl (r_ldb t136 hM 2 hb15 6 hK rfl rfl rfl rfl rfl) fun a hK => ?_
      refine s_val hK rfl rfl rfl (r_fa fa40_2 hK rfl rfl) fun a hK => ?_
      refine s_val hK rfl rfl rfl (r_ldb t13 hM 2 hb15 5 hK rfl rfl rfl rfl rfl) fun a hK => ?_
      obtain ⟨x41, hx42, h⟩ := obind_some h
      refine s_call hK Tryz.call181 rfl rfl rfl rfl rfl (c_impl_TableOk fu _ _ (Enc.rd_agr hf11 (hM.a00 (Enc.rd_lt hf11))) hx42) fun e43 w44 hR => ?_
      obtain ⟨rfl, hE⟩ := hR
      refine ⟨_, rfl, fun a hK => ?_⟩
      have hM := hM.step hE
      iterate 2 (refine s1 hK rfl rfl rfl rfl fun a hK => ?_)
      have hK := hK.keep [1, 3, 5, 21] rfl
      refine wpList_nil (nm_then ?_)
      refine c_cond (b := !x41) hK rfl (fun hb45 => ?_) (fun hb45 => ?_)
      · have h := bif_t hb45 h
        refine wp_seq ?_
        refine wp_region_lit ?_
        refine s1 hK rfl rfl rfl rfl fun a hK => ?_
        refine wpList_nil (nm_then ?_)
        refine wp_ret (rt_block (rt_then ?_))
        have h := Option.some.inj h
        subst h
        exact finR1 hK rfl (RV.tmp hK rfl) ⟨rfl, hM.ext⟩
      · have h := bif_f hb45 h
        refine wp_seq ?_
        refine wp_region_lit ?_
        refine s_val hK rfl rfl rfl (r_fa fa40_6 hK rfl rfl) fun a hK => ?_
        refine s_val hK rfl rfl rfl (r_ldb t138 hM 2 hb15 9 hK rfl rfl rfl rfl rfl) fun a hK => ?_
        refine s1 hK rfl rfl rfl rfl fun a hK => ?_
        obtain ⟨x49, hx50, h⟩ := obind_some h
        refine s_call hK Tryz.call151 rfl rfl rfl rfl rfl (c_slices_ContainsFunc_impl_Item_impl_Item fu _ _ (Enc.rd_agr hf13 (hM.a00 (Enc.rd_lt hf13))) ⟨182, [.pointer (some (⟨b21, 0, none⟩ : Addr))], rfl, Tryz.call182, fun w y46 v47 r hE hv48 hx => by subst hv48; have hM := hM.step hE; exact c_impl_Class_1 fu _ _ (hb25.agr (hM.a 1 rfl) (by simp)) hx⟩ hx50) fun e51 w52 hR => ?_
        obtain ⟨rfl, hE⟩ := hR
        refine ⟨_, rfl, fun a hK => ?_⟩
        have hM := hM.step hE
        refine s1 hK rfl rfl rfl rfl fun a hK => ?_
        refine wpList_nil (nm_then ?_)
        refine c_cond (b := x49) hK rfl (fun hb53 => ?_) (fun hb53 => ?_)
        · have h := bif_t hb53 h
          refine wp_seq ?_
          refine wp_region_lit ?_
          refine s1 hK rfl rfl rfl rfl fun a hK => ?_
          refine wpList_nil (nm_then ?_)
          refine wp_ret (rt_block (rt_then ?_))
          have h := Option.some.inj h
          subst h
          exact finR1 hK rfl (RV.tmp hK rfl) ⟨rfl, hM.ext⟩
        · have h := bif_f hb53 h
          refine wp_seq ?_
          refine wp_region_lit ?_
          refine s_val hK rfl rfl rfl (r_fa fa40_4 hK rfl rfl) fun a hK => ?_
          refine s_val hK rfl rfl rfl (r_ldb t137 hM 2 hb15 7 hK rfl rfl rfl rfl rfl) fun a hK => ?_
          refine s1 hK rfl rfl rfl rfl fun a hK => ?_
          obtain ⟨x57, hx58, h⟩ := obind_some h
          refine s_call hK Tryz.call184 rfl rfl rfl rfl rfl (c_slices_ContainsFunc_impl_Type_impl_Type fu _ _ (Enc.rd_agr hf12 (hM.a00 (Enc.rd_lt hf12))) ⟨185, [.pointer (some (⟨b26, 0, none⟩ : Addr))], rfl, Tryz.call185, fun w y54 v55 r hE hv56 hx => by subst hv56; have hM := hM.step hE; exact c_impl_Class_2 fu _ _ (hb30.agr (hM.a 0 rfl) (by simp)) hx⟩ hx58) fun e59 w60 hR => ?_
          obtain ⟨rfl, hE⟩ := hR
          refine ⟨_, rfl, fun a hK => ?_⟩
          have hM := hM.step hE
          refine s1 hK rfl rfl rfl rfl fun a hK => ?_
          refine wpList_nil (nm_then ?_)
          refine c_cond (b := x57) hK rfl (fun hb61 => ?_) (fun hb61 => ?_)
          · have h := bif_t hb61 h
            refine wp_seq ?_
            refine wp_region_lit ?_
            refine s1 hK rfl rfl rfl rfl fun a hK => ?_
            refine wpList_nil (nm_then ?_)
            refine wp_ret (rt_block (rt_then ?_))
            have h := Option.some.inj h
            subst h
            exact finR1 hK rfl (RV.tmp hK rfl) ⟨rfl, hM.ext⟩
          · have h := bif_f hb61 h
            refine wp_skip (nm_block (nm_then ?_))
            refine wp_seq ?_
            refine wp_region_lit ?_
            refine s1 hK rfl rfl rfl rfl fun a hK => ?_
            refine wpList_nil (nm_then ?_)
            refine wp_ret ?_
            have h := Option.some.inj h
            subst h
            exact finR1 hK rfl (RV.tmp hK rfl) ⟨rfl, hM.ext⟩

end Go.Proofs.YthjbcfefkdbgoaaGreat
