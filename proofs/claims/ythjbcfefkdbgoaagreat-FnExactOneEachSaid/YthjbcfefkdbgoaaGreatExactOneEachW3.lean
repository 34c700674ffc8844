/- FnExactOneEach: the walks of functions that the law reaches, part 3. Printed by gen.py. -/
import Derived.Test.YthjbcfefkdbgoaaGreatExactOneEachW2
set_option maxRecDepth 20000
set_option linter.unusedVariables false
namespace Go.Proofs.YthjbcfefkdbgoaaGreat
open Go Go.RowKit

theorem te47 : TE Tryz.prog 47 1 24 [.slice none 0 0] := ⟨29, Tryz.t29, Tryz.underlying47, Tryz.type29, ⟨_, rfl, rfl⟩, rfl, rfl, rfl, by decide⟩

def d_spec_Class_J1 (fu : Nat) (k4 : Int → Option (Int)) (i126 : Int)  : Option (Int) :=
  k4 (w64 (i126 + 1))

def d_spec_Class_L1_B (fu : Nat)  (r1 : Request) (k4 : Int → Option (Int)) (i126 : Int) : Option (Int) :=
  bif (decide (i126 < ((r1.fTypes.length : Int)))) then obind (ix r1.fTypes i126) fun x141 => bif (decide (x141.fW > r1.fPallet.fW)) then some (6) else bif (decide (x141.fD > r1.fPallet.fD)) then some (6) else bif (decide (x141.fH > r1.fPallet.fH)) then some (6) else bif (decide ((w64 (x141.fTare + x141.fGram)) > r1.fPallet.fGram)) then some (6) else d_spec_Class_J1 fu k4 i126 else some (0)
def d_spec_Class_L1 (fu : Nat)  (r1 : Request) : Nat → Int → Option (Int)
  | 0 => fun _ => none
  | n + 1 => d_spec_Class_L1_B fu r1 (d_spec_Class_L1 fu r1 n)
theorem d_spec_Class_L1_s (fu : Nat)  (r1 : Request) (n : Nat) : d_spec_Class_L1 fu r1 (n + 1) = d_spec_Class_L1_B fu r1 (d_spec_Class_L1 fu r1 n) := rfl

def d_spec_Class_L2_B (fu : Nat)  (r1 : Request) (x32 : Typ × Bool) (k1 : Int → Option (Int)) (i63 : Int) : Option (Int) :=
  bif (decide (i63 < ((r1.fItems.length : Int)))) then obind (ix r1.fItems i63) fun x67 => obind (d_spec_Fits fu x67 x32.1) fun x69 => bif (!x69) then some (5) else k1 (w64 (i63 + 1)) else d_spec_Class_L1 fu r1 fu 0
def d_spec_Class_L2 (fu : Nat)  (r1 : Request) (x32 : Typ × Bool) : Nat → Int → Option (Int)
  | 0 => fun _ => none
  | n + 1 => d_spec_Class_L2_B fu r1 x32 (d_spec_Class_L2 fu r1 x32 n)
theorem d_spec_Class_L2_s (fu : Nat)  (r1 : Request) (x32 : Typ × Bool) (n : Nat) : d_spec_Class_L2 fu r1 x32 (n + 1) = d_spec_Class_L2_B fu r1 x32 (d_spec_Class_L2 fu r1 x32 n) := rfl

def d_spec_Class (fu : Nat) (r1 : Request) : Option (Int) :=
  obind (d_spec_BoundsOk fu r1) fun x17 => bif (!x17) then some (2) else obind (d_spec_l5Names fu r1) fun x22 => bif (!x22) then some (3) else obind (d_spec_TableOk fu r1.fPairs r1.fClasses) fun x27 => bif (!x27) then some (4) else obind (d_spec_MasterOf fu r1) fun x32 => d_spec_Class_L2 fu r1 x32 fu 0

def d_spec_l6Units_L1_B (fu : Nat) (k3 : List Int → Int → Option ((List Int))) (r1 : Request) (i154 : Int) (k4 : List Int → Int → Option ((List Int))) (out194 : List Int) (kv199 : Int) : Option ((List Int)) :=
  obind (ix r1.fItems i154) fun x201 => bif (decide (kv199 < x201.fCount)) then obind (apnd 8 out194 (([i154] : List Int))) fun x209 => k4 x209 (w64 (kv199 + 1)) else k3 out194 (w64 (i154 + 1))
def d_spec_l6Units_L1 (fu : Nat) (k3 : List Int → Int → Option ((List Int))) (r1 : Request) (i154 : Int) : Nat → List Int → Int → Option ((List Int))
  | 0 => fun _ _ => none
  | n + 1 => d_spec_l6Units_L1_B fu k3 r1 i154 (d_spec_l6Units_L1 fu k3 r1 i154 n)
theorem d_spec_l6Units_L1_s (fu : Nat) (k3 : List Int → Int → Option ((List Int))) (r1 : Request) (i154 : Int) (n : Nat) : d_spec_l6Units_L1 fu k3 r1 i154 (n + 1) = d_spec_l6Units_L1_B fu k3 r1 i154 (d_spec_l6Units_L1 fu k3 r1 i154 n) := rfl

def d_spec_l6Units_L2_B (fu : Nat)  (r1 : Request) (k3 : List Int → Int → Option ((List Int))) (out149 : List Int) (i154 : Int) : Option ((List Int)) :=
  bif (decide (i154 < ((r1.fItems.length : Int)))) then d_spec_l6Units_L1 fu k3 r1 i154 fu out149 0 else some (out149)
def d_spec_l6Units_L2 (fu : Nat)  (r1 : Request) : Nat → List Int → Int → Option ((List Int))
  | 0 => fun _ _ => none
  | n + 1 => d_spec_l6Units_L2_B fu r1 (d_spec_l6Units_L2 fu r1 n)
theorem d_spec_l6Units_L2_s (fu : Nat)  (r1 : Request) (n : Nat) : d_spec_l6Units_L2 fu r1 (n + 1) = d_spec_l6Units_L2_B fu r1 (d_spec_l6Units_L2 fu r1 n) := rfl

def d_spec_l6Units (fu : Nat) (r1 : Request) : Option ((List Int)) :=
  d_spec_l6Units_L2 fu r1 fu (([] : List Int)) 0

def d_spec_Units (fu : Nat) (r1 : Request) : Option ((List Int)) :=
  obind (d_spec_Class fu r1) fun x17 => bif (x17 != 0) then some (([] : List Int)) else obind (d_spec_l6Units fu r1) fun x27 => some (x27)

def d_spec_OneEach_L1_B (fu : Nat)  (x22 : (List Int)) (k1 : List (List Int) → Int → Option ((List (List Int)))) (out78 : List (List Int)) (u83 : Int) : Option ((List (List Int))) :=
  bif (decide (u83 < ((x22.length : Int)))) then obind (apnd 24 out78 [([u83] : List Int)]) fun x95 => k1 x95 (w64 (u83 + 1)) else some (out78)
def d_spec_OneEach_L1 (fu : Nat)  (x22 : (List Int)) : Nat → List (List Int) → Int → Option ((List (List Int)))
  | 0 => fun _ _ => none
  | n + 1 => d_spec_OneEach_L1_B fu x22 (d_spec_OneEach_L1 fu x22 n)
theorem d_spec_OneEach_L1_s (fu : Nat)  (x22 : (List Int)) (n : Nat) : d_spec_OneEach_L1 fu x22 (n + 1) = d_spec_OneEach_L1_B fu x22 (d_spec_OneEach_L1 fu x22 n) := rfl

def d_spec_OneEach (fu : Nat) (r1 : Request) : Option ((List (List Int))) :=
  obind (d_spec_Units fu r1) fun x22 => d_spec_OneEach_L1 fu x22 fu (([] : List (List Int))) 0

def d_impl_TypeById_1 (fu : Nat) (t1 : Typ) (x2 : Int) : Option (Bool) :=
  some (t1.fId == x2)

def d_slices_IndexFunc_impl_Type_impl_Type_L1_B (fu : Nat)  (sv1 : List Typ) (f5 : Typ → Option Bool) (k1 : Int → Option (Int)) (x32 : Int) : Option (Int) :=
  bif (decide (x32 < ((sv1.length : Int)))) then obind (ix sv1 x32) fun x35 => obind (f5 x35) fun x37 => bif x37 then some (x32) else k1 (w64 (x32 + 1)) else some ((-1))
def d_slices_IndexFunc_impl_Type_impl_Type_L1 (fu : Nat)  (sv1 : List Typ) (f5 : Typ → Option Bool) : Nat → Int → Option (Int)
  | 0 => fun _ => none
  | n + 1 => d_slices_IndexFunc_impl_Type_impl_Type_L1_B fu sv1 f5 (d_slices_IndexFunc_impl_Type_impl_Type_L1 fu sv1 f5 n)
theorem d_slices_IndexFunc_impl_Type_impl_Type_L1_s (fu : Nat)  (sv1 : List Typ) (f5 : Typ → Option Bool) (n : Nat) : d_slices_IndexFunc_impl_Type_impl_Type_L1 fu sv1 f5 (n + 1) = d_slices_IndexFunc_impl_Type_impl_Type_L1_B fu sv1 f5 (d_slices_IndexFunc_impl_Type_impl_Type_L1 fu sv1 f5 n) := rfl

def d_slices_IndexFunc_impl_Type_impl_Type (fu : Nat) (sv1 : List Typ) (f5 : Typ → Option Bool) : Option (Int) :=
  d_slices_IndexFunc_impl_Type_impl_Type_L1 fu sv1 f5 fu 0

def d_impl_TypeById (fu : Nat) (r1 : Request) (id5 : Int) : Option (Typ × Bool) :=
  obind (d_slices_IndexFunc_impl_Type_impl_Type fu r1.fTypes (fun y24 => d_impl_TypeById_1 fu y24 id5)) fun x27 => bif (decide (x27 < 0)) then some ((⟨0, 0, 0, 0, 0, 0, 0⟩ : Typ), false) else obind (ix r1.fTypes x27) fun x34 => some (x34, true)

def d_impl_MasterOf (fu : Nat) (r1 : Request) : Option (Typ × Bool) :=
  obind (d_impl_TypeById fu r1 r1.fMaster) fun x20 => some (x20.1, x20.2)

def d_impl_in (fu : Nat) (n1 : Int) (lo2 : Int) (hi3 : Int) : Option (Bool) :=
  bif (decide (n1 ≥ lo2)) then some (decide (n1 ≤ hi3)) else some (false)

def d_impl_isSide (fu : Nat) (n1 : Int) : Option (Bool) :=
  obind (d_impl_in fu n1 1 2000) fun x2 => some (x2)

def d_impl_PalletOk (fu : Nat) (x1 : Pallet) : Option (Bool) :=
  obind (d_impl_isSide fu x1.fW) fun x5 => bif x5 then obind (d_impl_isSide fu x1.fD) fun x10 => bif x10 then obind (d_impl_isSide fu x1.fH) fun x15 => bif x15 then obind (d_impl_in fu x1.fGram 1 100000) fun x20 => some (x20) else some (false) else some (false) else some (false)

def d_slices_IndexFunc_impl_Pair_impl_Pair_L1_B (fu : Nat)  (sv1 : List Pair) (f5 : Pair → Option Bool) (k1 : Int → Option (Int)) (x32 : Int) : Option (Int) :=
  bif (decide (x32 < ((sv1.length : Int)))) then obind (ix sv1 x32) fun x35 => obind (f5 x35) fun x37 => bif x37 then some (x32) else k1 (w64 (x32 + 1)) else some ((-1))
def d_slices_IndexFunc_impl_Pair_impl_Pair_L1 (fu : Nat)  (sv1 : List Pair) (f5 : Pair → Option Bool) : Nat → Int → Option (Int)
  | 0 => fun _ => none
  | n + 1 => d_slices_IndexFunc_impl_Pair_impl_Pair_L1_B fu sv1 f5 (d_slices_IndexFunc_impl_Pair_impl_Pair_L1 fu sv1 f5 n)
theorem d_slices_IndexFunc_impl_Pair_impl_Pair_L1_s (fu : Nat)  (sv1 : List Pair) (f5 : Pair → Option Bool) (n : Nat) : d_slices_IndexFunc_impl_Pair_impl_Pair_L1 fu sv1 f5 (n + 1) = d_slices_IndexFunc_impl_Pair_impl_Pair_L1_B fu sv1 f5 (d_slices_IndexFunc_impl_Pair_impl_Pair_L1 fu sv1 f5 n) := rfl

def d_slices_IndexFunc_impl_Pair_impl_Pair (fu : Nat) (sv1 : List Pair) (f5 : Pair → Option Bool) : Option (Int) :=
  d_slices_IndexFunc_impl_Pair_impl_Pair_L1 fu sv1 f5 fu 0

def d_slices_ContainsFunc_impl_Pair_impl_Pair (fu : Nat) (sv1 : List Pair) (f5 : Pair → Option Bool) : Option (Bool) :=
  obind (d_slices_IndexFunc_impl_Pair_impl_Pair fu sv1 f5) fun x14 => some (decide (x14 ≥ 0))

def d_impl_BoundsOk_1 (fu : Nat) (p1 : Pair) : Option (Bool) :=
  obind (d_impl_in fu p1.fA 0 3) fun x5 => bif (!x5) then some (true) else obind (d_impl_in fu p1.fB 0 3) fun x10 => some (!x10)

def d_slices_ContainsFunc_impl_Type_impl_Type (fu : Nat) (sv1 : List Typ) (f5 : Typ → Option Bool) : Option (Bool) :=
  obind (d_slices_IndexFunc_impl_Type_impl_Type fu sv1 f5) fun x14 => some (decide (x14 ≥ 0))

def d_impl_TypeOk (fu : Nat) (x1 : Typ) : Option (Bool) :=
  obind (d_impl_in fu x1.fId 0 999) fun x5 => bif x5 then obind (d_impl_isSide fu x1.fW) fun x10 => bif x10 then obind (d_impl_isSide fu x1.fH) fun x15 => bif x15 then obind (d_impl_isSide fu x1.fD) fun x20 => bif x20 then obind (d_impl_in fu x1.fTare 0 100000) fun x25 => bif x25 then obind (d_impl_in fu x1.fGram 1 100000) fun x30 => bif x30 then obind (d_impl_in fu x1.fCost 0 100000) fun x35 => some (x35) else some (false) else some (false) else some (false) else some (false) else some (false) else some (false)

def d_impl_BoundsOk_2 (fu : Nat) (t1 : Typ) : Option (Bool) :=
  obind (d_impl_TypeOk fu t1) fun x5 => some (!x5)

def d_impl_ItemOk (fu : Nat) (x1 : Item) : Option (Bool) :=
  obind (d_impl_in fu x1.fId 0 999) fun x5 => bif x5 then obind (d_impl_isSide fu x1.fW) fun x10 => bif x10 then obind (d_impl_isSide fu x1.fH) fun x15 => bif x15 then obind (d_impl_isSide fu x1.fD) fun x20 => bif x20 then obind (d_impl_in fu x1.fGram 1 100000) fun x25 => bif x25 then obind (d_impl_in fu x1.fClass 0 3) fun x30 => bif x30 then obind (d_impl_in fu x1.fCount 1 6) fun x35 => some (x35) else some (false) else some (false) else some (false) else some (false) else some (false) else some (false)

def d_impl_BoundsOk_L1_B (fu : Nat)  (r1 : Request) (k3 : Int → Int → Option (Bool)) (units93 : Int) (x94 : Int) : Option (Bool) :=
  bif (decide (x94 < ((r1.fItems.length : Int)))) then obind (ix r1.fItems x94) fun x97 => obind (d_impl_ItemOk fu x97) fun x104 => bif (!x104) then some (false) else k3 (w64 (units93 + x97.fCount)) (w64 (x94 + 1)) else some (decide (units93 ≤ 12))
def d_impl_BoundsOk_L1 (fu : Nat)  (r1 : Request) : Nat → Int → Int → Option (Bool)
  | 0 => fun _ _ => none
  | n + 1 => d_impl_BoundsOk_L1_B fu r1 (d_impl_BoundsOk_L1 fu r1 n)
theorem d_impl_BoundsOk_L1_s (fu : Nat)  (r1 : Request) (n : Nat) : d_impl_BoundsOk_L1 fu r1 (n + 1) = d_impl_BoundsOk_L1_B fu r1 (d_impl_BoundsOk_L1 fu r1 n) := rfl

def d_impl_BoundsOk_J1 (fu : Nat) (r1 : Request)  : Option (Bool) :=
  d_impl_BoundsOk_L1 fu r1 fu 0 0

def d_impl_BoundsOk_J2 (fu : Nat) (r1 : Request)  : Option (Bool) :=
  obind (d_slices_ContainsFunc_impl_Pair_impl_Pair fu r1.fPairs (fun y34 => d_impl_BoundsOk_1 fu y34)) fun x37 => bif x37 then some (false) else obind (d_impl_in fu ((r1.fTypes.length : Int)) 1 5) fun x109 => bif (!x109) then some (false) else obind (d_slices_ContainsFunc_impl_Type_impl_Type fu r1.fTypes (fun y114 => d_impl_BoundsOk_2 fu y114)) fun x117 => bif x117 then some (false) else obind (d_impl_in fu r1.fMaster 0 999) fun x122 => bif (!x122) then some (false) else bif (decide (((r1.fItems.length : Int)) > 8)) then some (false) else d_impl_BoundsOk_J1 fu r1

def d_impl_BoundsOk (fu : Nat) (r1 : Request) : Option (Bool) :=
  obind (d_impl_in fu r1.fWay 0 1) fun x128 => bif (!x128) then some (false) else obind (d_impl_PalletOk fu r1.fPallet) fun x133 => bif (!x133) then some (false) else obind (d_impl_in fu r1.fClasses 1 4) fun x138 => bif (!x138) then some (false) else bif (decide (((r1.fPairs.length : Int)) > 16)) then some (false) else d_impl_BoundsOk_J2 fu r1

theorem c_spec_Class (fu : Nat) {w0 : World} (r1 : Request) {cs2 : List Value} {F3 : List Nat} (hp4 : rd w0 F3 cs2 r1) {r : Int}
    (h : d_spec_Class fu r1 = some r) :
    Calls Tryz.prog 68 #[.agg cs2.toArray] w0 fun e w => e = .returned (.int .i64 (r)) ∧ Ext [] w0 w := by
  refine enter (vs := [_]) Tryz.func68 rfl Tryz.ntmps68 rfl fun a hK => ?_
  have hM := St.start w0
  obtain ⟨v5, F6, v7, F8, v9, F10, rfl, rfl, hf11, hf12, hf13⟩ := hp4
  unfold d_spec_Class at h
  refine wp_seq ?_
  refine wp_region_lit ?_
  refine s_box (cs := [.int .i64 (r1.fWay), .int .i64 (r1.fPallet.fW), .int .i64 (r1.fPallet.fD), .int .i64 (r1.fPallet.fH), .int .i64 (r1.fPallet.fGram), .int .i64 (r1.fClasses), v5, v7, .int .i64 (r1.fMaster), v9]) hM hK rfl rfl rfl rfl rfl rfl fun b14 w16 a hK hM hE hb15 => ?_
  refine s1 hK rfl rfl rfl rfl fun a hK => ?_
  refine wpList_nil (nm_then ?_)
  refine wp_seq ?_
  refine wp_seq ?_
  refine wp_region_lit ?_
  refine s_val hK rfl rfl rfl (r_ldB ta40 hM 0 hb15 0 hK rfl rfl rfl rfl rfl rfl) fun a hK => ?_
  obtain ⟨x17, hx18, h⟩ := obind_some h
  refine s_call hK Tryz.call132 rfl rfl rfl rfl rfl (c_spec_BoundsOk fu _ (show rd _ _ [.int .i64 (r1.fWay), .int .i64 (r1.fPallet.fW), .int .i64 (r1.fPallet.fD), .int .i64 (r1.fPallet.fH), .int .i64 (r1.fPallet.fGram), .int .i64 (r1.fClasses), v5, v7, .int .i64 (r1.fMaster), v9] (r1 : Request) from ⟨_, _, _, _, _, _, rfl, rfl, (Enc.rd_agr hf11 (hM.a00 (Enc.rd_lt hf11))), (Enc.rd_agr hf12 (hM.a00 (Enc.rd_lt hf12))), (Enc.rd_agr hf13 (hM.a00 (Enc.rd_lt hf13)))⟩) hx18) fun e19 w20 hR => ?_
  obtain ⟨rfl, hE⟩ := hR
  refine ⟨_, rfl, fun a hK => ?_⟩
  have hM := hM.step hE
  refine s1 hK rfl rfl rfl rfl fun a hK => ?_
  refine wpList_nil (nm_then ?_)
  refine c_cond (b := !x17) hK rfl (fun hb21 => ?_) (fun hb21 => ?_)
  · have h := bif_t hb21 h
    refine wp_seq ?_
    refine wp_region_lit ?_
    refine s1 hK rfl rfl rfl rfl fun a hK => ?_
    refine wpList_nil (nm_then ?_)
    refine wp_ret (rt_then ?_)
    have h := Option.some.inj h
    subst h
    exact finR1 hK rfl (RV.tmp hK rfl) ⟨rfl, hM.ext⟩
  · have h := bif_f hb21 h
    refine wp_skip (nm_then ?_)
    refine wp_seq ?_
    refine wp_seq ?_
    refine wp_region_lit ?_
    refine s_val hK rfl rfl rfl (r_ldB ta40 hM 0 hb15 0 hK rfl rfl rfl rfl rfl rfl) fun a hK => ?_
    obtain ⟨x22, hx23, h⟩ := obind_some h
    refine s_call hK Tryz.call133 rfl rfl rfl rfl rfl (c_spec_l5Names fu _ (show rd _ _ [.int .i64 (r1.fWay), .int .i64 (r1.fPallet.fW), .int .i64 (r1.fPallet.fD), .int .i64 (r1.fPallet.fH), .int .i64 (r1.fPallet.fGram), .int .i64 (r1.fClasses), v5, v7, .int .i64 (r1.fMaster), v9] (r1 : Request) from ⟨_, _, _, _, _, _, rfl, rfl, (Enc.rd_agr hf11 (hM.a00 (Enc.rd_lt hf11))), (Enc.rd_agr hf12 (hM.a00 (Enc.rd_lt hf12))), (Enc.rd_agr hf13 (hM.a00 (Enc.rd_lt hf13)))⟩) hx23) fun e24 w25 hR => ?_
    obtain ⟨rfl, hE⟩ := hR
    refine ⟨_, rfl, fun a hK => ?_⟩
    have hM := hM.step hE
    refine s1 hK rfl rfl rfl rfl fun a hK => ?_
    refine wpList_nil (nm_then ?_)
    refine c_cond (b := !x22) hK rfl (fun hb26 => ?_) (fun hb26 => ?_)
    · have h := bif_t hb26 h
      refine wp_seq ?_
      refine wp_region_lit ?_
      refine s1 hK rfl rfl rfl rfl fun a hK => ?_
      refine wpList_nil (nm_then ?_)
      refine wp_ret (rt_then ?_)
      have h := Option.some.inj h
      subst h
      exact finR1 hK rfl (RV.tmp hK rfl) ⟨rfl, hM.ext⟩
    · have h := bif_f hb26 h
      refine wp_skip (nm_then ?_)
      refine wp_seq ?_
      refine wp_seq ?_
      refine wp_region_lit ?_
      refine s_val hK rfl rfl rfl (r_fa fa40_3 hK rfl rfl) fun a hK => ?_
      refine s_val hK rfl rfl rfl (r_ldb t136 hM 0 hb15 6 hK rfl rfl rfl rfl rfl) fun a hK => ?_
      refine s_val hK rfl rfl rfl (r_fa fa40_2 hK rfl rfl) fun a hK => ?_
      refine s_val hK rfl rfl rfl (r_ldb t13 hM 0 hb15 5 hK rfl rfl rfl rfl rfl) fun a hK => ?_
      obtain ⟨x27, hx28, h⟩ := obind_some h
      refine s_call hK Tryz.call134 rfl rfl rfl rfl rfl (c_spec_TableOk fu _ _ (Enc.rd_agr hf11 (hM.a00 (Enc.rd_lt hf11))) hx28) fun e29 w30 hR => ?_
      obtain ⟨rfl, hE⟩ := hR
      refine ⟨_, rfl, fun a hK => ?_⟩
      have hM := hM.step hE
      refine s1 hK rfl rfl rfl rfl fun a hK => ?_
      refine wpList_nil (nm_then ?_)
      refine c_cond (b := !x27) hK rfl (fun hb31 => ?_) (fun hb31 => ?_)
      · have h := bif_t hb31 h
        refine wp_seq ?_
        refine wp_region_lit ?_
        refine s1 hK rfl rfl rfl rfl fun a hK => ?_
        refine wpList_nil (nm_then ?_)
        refine wp_ret (rt_then ?_)
        have h := Option.some.inj h
        subst h
        exact finR1 hK rfl (RV.tmp hK rfl) ⟨rfl, hM.ext⟩
      · have h := bif_f hb31 h
        refine wp_skip (nm_then ?_)
        refine wp_seq ?_
        refine wp_region_lit ?_
        refine s_val hK rfl rfl rfl (r_ldB ta40 hM 0 hb15 0 hK rfl rfl rfl rfl rfl rfl) fun a hK => ?_
        obtain ⟨x32, hx33, h⟩ := obind_some h
        refine s_call hK Tryz.call88 rfl rfl rfl rfl rfl (c_spec_MasterOf fu _ (show rd _ _ [.int .i64 (r1.fWay), .int .i64 (r1.fPallet.fW), .int .i64 (r1.fPallet.fD), .int .i64 (r1.fPallet.fH), .int .i64 (r1.fPallet.fGram), .int .i64 (r1.fClasses), v5, v7, .int .i64 (r1.fMaster), v9] (r1 : Request) from ⟨_, _, _, _, _, _, rfl, rfl, (Enc.rd_agr hf11 (hM.a00 (Enc.rd_lt hf11))), (Enc.rd_agr hf12 (hM.a00 (Enc.rd_lt hf12))), (Enc.rd_agr hf13 (hM.a00 (Enc.rd_lt hf13)))⟩) hx33) fun e34 w35 hR => ?_
        obtain ⟨rfl, hE⟩ := hR
        refine ⟨_, rfl, fun a hK => ?_⟩
        have hM := hM.step hE
        iterate 3 (refine s1 hK rfl rfl rfl rfl fun a hK => ?_)
        refine s_alloc (cs := [.int .i64 (0), .int .i64 (0), .int .i64 (0), .int .i64 (0), .int .i64 (0), .int .i64 (0), .int .i64 (0)]) hM hK Tryz.zeroValue92 rfl rfl rfl rfl rfl fun b36 w38 a hK hM hE hb37 => ?_
        refine s_stb (cs' := [.int .i64 (x32.1.fId), .int .i64 (x32.1.fW), .int .i64 (x32.1.fH), .int .i64 (x32.1.fD), .int .i64 (x32.1.fTare), .int .i64 (x32.1.fGram), .int .i64 (x32.1.fCost)]) Tryz.sizeOf92 hM 0 hb37 0 hK rfl rfl rfl rfl rfl rfl rfl rfl rfl rfl rfl fun w39 a hK hE hM hb40 => ?_
        refine s1 hK rfl rfl rfl rfl fun a hK => ?_
        refine wpList_nil (nm_then ?_)
        refine wp_seq ?_
        refine wp_seq ?_
        refine wp_region_lit ?_
        refine s1 hK rfl rfl rfl rfl fun a hK => ?_
        refine wpList_nil (nm_then ?_)
        refine wp_block ?_
        refine c_loop (fun n a w => ∃ (i63 : Int), K 85 [(1, .pointer (some (⟨b14, 0, none⟩ : Addr))), (3, .pointer (some (⟨b36, 0, none⟩ : Addr))), (5, .int .i64 (i63))] a ∧ St [] w0 w [([b14], w16), ([b36], w39)] ∧ d_spec_Class_L2 fu r1 x32 n i63 = some r) ?_ ?_ fu _ _ ?_
        · rintro a w ⟨_, _, _, h⟩
          cases (show none = some _ from h)
        · rintro m64 a w62 ⟨i63, hK, hM, h⟩
          rw [d_spec_Class_L2_s] at h
          unfold d_spec_Class_L2_B at h
          refine wp_seq ?_
          refine wp_seq ?_
          refine wp_region_lit ?_
          refine s1 hK rfl rfl rfl rfl fun a hK => ?_
          refine s_val hK rfl rfl rfl (r_fa fa40_6 hK rfl rfl) fun a hK => ?_
          refine s_val hK rfl rfl rfl (r_ldb t138 hM 0 hb15 9 hK rfl rfl rfl rfl rfl) fun a hK => ?_
          refine s_val hK rfl rfl rfl (r_len (α := Item) hf13 hK Tryz.underlying38 rfl rfl) fun a hK => ?_
          refine s1 hK rfl rfl rfl rfl fun a hK => ?_
          refine wpList_nil (nm_then ?_)
          refine c_cond (b := decide (i63 < ((r1.fItems.length : Int)))) hK rfl (fun hb65 => ?_) (fun hb65 => ?_)
          · have h := bif_t hb65 h
            refine wp_skip (nm_then ?_)
            refine wp_seq ?_
            refine wp_block ?_
            refine wp_seq ?_
            refine d_go [] mixo hM rfl fun w66 hMd => ?_
            have hM := hMd
            have hS := Ext.refl ([] : List Nat) w66
            refine d_take hK 0 rfl (by kernel_rfl) (by kernel_rfl) (by kernel_rfl) rfl rfl rfl hS (fun _ _ _ h => h) (fun w hS => r_fa fa40_6 hK rfl rfl) fun a hK => ?_
            refine d_take hK 1 rfl (by kernel_rfl) (by kernel_rfl) (by kernel_rfl) rfl rfl rfl hS (fun _ _ _ h => h) (fun w hS => r_ld1 t138 (r := []) (hb15.at ((hMd.step hS).a 0 rfl) 9 1 rfl rfl rfl) hK rfl rfl) fun a hK => ?_
            refine d_pure hK 2 rfl (by kernel_rfl) (by kernel_rfl) (by kernel_rfl) rfl rfl rfl hS (fun _ _ _ h => h) rfl fun a hK => ?_
            obtain ⟨x67, hx68, h⟩ := obind_some h
            refine d_take hK 3 rfl (by kernel_rfl) (by kernel_rfl) (by kernel_rfl) rfl rfl rfl hS (fun _ _ _ h => h) (fun w hS => r_ixa hf13 hx68 hK ts38 rfl rfl rfl) fun a hK => ?_
            refine d_take hK 4 rfl (by kernel_rfl) (by kernel_rfl) (by kernel_rfl) rfl rfl rfl hS (fun _ _ _ h => h) (fun w hS => r_lde hf13 ((hMd.step hS).a00 (Enc.rd_lt hf13)) hx68 ta120 hK rfl rfl) fun a hK => ?_
            refine d_take hK 5 rfl (by kernel_rfl) (by kernel_rfl) (by kernel_rfl) rfl rfl rfl hS (fun _ _ _ h => h) (fun w hS => r_ldA ta92 (hb40.at ((hMd.step hS).a 1 rfl) 0 7 rfl rfl rfl) rfl hK rfl rfl) fun a hK => ?_
            refine d_one 6 (by kernel_rfl) rfl ?_
            obtain ⟨x69, hx70, h⟩ := obind_some h
            refine s_call hK Tryz.call135 rfl rfl rfl rfl rfl (c_spec_Fits fu (x67 : Item) (x32.1 : Typ)  hx70) fun e71 w72 hR => ?_
            obtain ⟨rfl, hE⟩ := hR
            refine ⟨_, rfl, fun a hK => ?_⟩
            have hM := hM.step hE
            have hS := hS.trans hE (by simp)
            refine wpList_nil ⟨hS, ?_⟩
            refine d_pure hK 7 rfl (by kernel_rfl) (by kernel_rfl) (by kernel_rfl) rfl rfl rfl hS (fun _ _ _ h => h) rfl fun a hK => ?_
            refine d_done (by kernel_rfl) ?_
            refine (nm_then ?_)
            refine c_cond (b := !x69) hK rfl (fun hb73 => ?_) (fun hb73 => ?_)
            · have h := bif_t hb73 h
              refine wp_seq ?_
              refine wp_region_lit ?_
              refine s1 hK rfl rfl rfl rfl fun a hK => ?_
              refine wpList_nil (nm_then ?_)
              refine wp_ret (rt_block (rt_then (rt_then (rt_block (rt_then ?_)))))
              have h := Option.some.inj h
              subst h
              exact finR1 hK rfl (RV.tmp hK rfl) ⟨rfl, hM.ext⟩
            · have h := bif_f hb73 h
              refine wp_skip (nm_block (nm_then ?_))
              refine wp_region_lit ?_
              iterate 3 (refine s1 hK rfl rfl rfl rfl fun a hK => ?_)
              refine wpList_nil (nm_then ?_)
              exact ⟨w64 (i63 + 1), hK.keep [1, 3, 5] rfl, hM.sel [0, 1] rfl (by decide), h⟩
          · have h := bif_f hb65 h
            refine wp_exit (ex_then (ex_then (ex_same (nm_then ?_))))
            refine wp_seq ?_
            refine wp_seq ?_
            refine wp_region_lit ?_
            refine s1 hK rfl rfl rfl rfl fun a hK => ?_
            refine wpList_nil (nm_then ?_)
            refine wp_block ?_
            refine c_loop (fun n a w => ∃ (i126 : Int), K 85 [(1, .pointer (some (⟨b14, 0, none⟩ : Addr))), (6, .int .i64 (i126))] a ∧ St [] w0 w [([b14], w16)] ∧ d_spec_Class_L1 fu r1 n i126 = some r) ?_ ?_ fu _ _ ?_
            · rintro a w ⟨_, _, _, h⟩
              cases (show none = some _ from h)
            · rintro m127 a w125 ⟨i126, hK, hM, h⟩
              rw [d_spec_Class_L1_s] at h
              unfold d_spec_Class_L1_B at h
              refine wp_seq ?_
              refine wp_seq ?_
              refine wp_region_lit ?_
              refine s1 hK rfl rfl rfl rfl fun a hK => ?_
              refine s_val hK rfl rfl rfl (r_fa fa40_4 hK rfl rfl) fun a hK => ?_
              refine s_val hK rfl rfl rfl (r_ldb t137 hM 0 hb15 7 hK rfl rfl rfl rfl rfl) fun a hK => ?_
              refine s_val hK rfl rfl rfl (r_len (α := Typ) hf12 hK Tryz.underlying37 rfl rfl) fun a hK => ?_
              refine s1 hK rfl rfl rfl rfl fun a hK => ?_
              refine wpList_nil (nm_then ?_)
              refine c_cond (b := decide (i126 < ((r1.fTypes.length : Int)))) hK rfl (fun hb128 => ?_) (fun hb128 => ?_)
              · have h := bif_t hb128 h
                refine wp_skip (nm_then ?_)
                refine c_cut (fun a w => K 85 [(1, .pointer (some (⟨b14, 0, none⟩ : Addr))), (6, .int .i64 (i126))] a ∧ St [] w0 w [([b14], w16)] ∧ d_spec_Class_J1 fu (d_spec_Class_L1 fu r1 m127) i126 = some r) ?_ ?_
                · rintro a w140 ⟨hK, hM, h⟩
                  unfold d_spec_Class_J1 at h
                  refine wp_region_lit ?_
                  iterate 3 (refine s1 hK rfl rfl rfl rfl fun a hK => ?_)
                  refine wpList_nil (nm_then ?_)
                  exact ⟨w64 (i126 + 1), hK.keep [1, 6] rfl, hM.sel [0] rfl (by decide), h⟩
                · refine wp_block ?_
                  refine wp_seq ?_
                  refine wp_region_lit ?_
                  refine s_val hK rfl rfl rfl (r_fa fa40_4 hK rfl rfl) fun a hK => ?_
                  refine s_val hK rfl rfl rfl (r_ldb t137 hM 0 hb15 7 hK rfl rfl rfl rfl rfl) fun a hK => ?_
                  refine s1 hK rfl rfl rfl rfl fun a hK => ?_
                  obtain ⟨x141, hx142, h⟩ := obind_some h
                  refine s_val hK rfl rfl rfl (r_ixa hf12 hx142 hK ts37 rfl rfl rfl) fun a hK => ?_
                  refine s_val hK rfl rfl rfl (r_lde hf12 (hM.a00 (Enc.rd_lt hf12)) hx142 ta92 hK rfl rfl) fun a hK => ?_
                  refine s_alloc (cs := [.int .i64 (0), .int .i64 (0), .int .i64 (0), .int .i64 (0), .int .i64 (0), .int .i64 (0), .int .i64 (0)]) hM hK Tryz.zeroValue92 rfl rfl rfl rfl rfl fun b143 w145 a hK hM hE hb144 => ?_
                  refine s_stb (cs' := [.int .i64 (x141.fId), .int .i64 (x141.fW), .int .i64 (x141.fH), .int .i64 (x141.fD), .int .i64 (x141.fTare), .int .i64 (x141.fGram), .int .i64 (x141.fCost)]) Tryz.sizeOf92 hM 0 hb144 0 hK rfl rfl rfl rfl rfl rfl rfl rfl rfl rfl rfl fun w146 a hK hE hM hb147 => ?_
                  refine wpList_nil (nm_then ?_)
                  refine wp_seq ?_
                  refine wp_region_lit ?_
                  refine s_val hK rfl rfl rfl (r_fa fa92_1 hK rfl rfl) fun a hK => ?_
                  refine s_val hK rfl rfl rfl (r_ldb t13 hM 0 hb147 1 hK rfl rfl rfl rfl rfl) fun a hK => ?_
                  refine s_val hK rfl rfl rfl (r_fa fa40_1 hK rfl rfl) fun a hK => ?_
                  refine s_val hK rfl rfl rfl (r_fa fa35_0 hK rfl rfl) fun a hK => ?_
                  refine s_val hK rfl rfl rfl (r_ldb t13 hM 1 hb15 1 hK rfl rfl rfl rfl rfl) fun a hK => ?_
                  iterate 2 (refine s1 hK rfl rfl rfl rfl fun a hK => ?_)
                  refine bsplit (decide (x141.fW > r1.fPallet.fW)) (fun hb148 => ?_) (fun hb148 => ?_)
                  · have h := bif_t hb148 h
                    have hK := hK.re (d := 58) rfl (congrArg Value.bool hb148)
                    refine sk hK rfl rfl rfl fun a hK => ?_
                    refine sk hK rfl rfl rfl fun a hK => ?_
                    refine sk hK rfl rfl rfl fun a hK => ?_
                    refine sk hK rfl rfl rfl fun a hK => ?_
                    refine sk hK rfl rfl rfl fun a hK => ?_
                    refine sk hK rfl rfl rfl fun a hK => ?_
                    iterate 2 (refine s1 hK rfl rfl rfl rfl fun a hK => ?_)
                    refine sk hK rfl rfl rfl fun a hK => ?_
                    refine sk hK rfl rfl rfl fun a hK => ?_
                    refine sk hK rfl rfl rfl fun a hK => ?_
                    refine sk hK rfl rfl rfl fun a hK => ?_
                    refine sk hK rfl rfl rfl fun a hK => ?_
                    refine sk hK rfl rfl rfl fun a hK => ?_
                    iterate 2 (refine s1 hK rfl rfl rfl rfl fun a hK => ?_)
                    refine sk hK rfl rfl rfl fun a hK => ?_
                    refine sk hK rfl rfl rfl fun a hK => ?_
                    refine sk hK rfl rfl rfl fun a hK => ?_
                    refine sk hK rfl rfl rfl fun a hK => ?_
                    refine sk hK rfl rfl rfl fun a hK => ?_
                    refine sk hK rfl rfl rfl fun a hK => ?_
                    refine sk hK rfl rfl rfl fun a hK => ?_
                    refine sk hK rfl rfl rfl fun a hK => ?_
                    refine sk hK rfl rfl rfl fun a hK => ?_
                    refine s1 hK rfl rfl rfl rfl fun a hK => ?_
                    have hK := hK.keep [1, 6, 84] rfl
                    refine wpList_nil (nm_then ?_)
                    refine wp_cond_true (hK.ev rfl) ?_
                    refine wp_seq ?_
                    refine wp_region_lit ?_
                    refine s1 hK rfl rfl rfl rfl fun a hK => ?_
                    refine wpList_nil (nm_then ?_)
                    refine wp_ret (rt_block (rt_then (rt_then (rt_block (rt_then ?_)))))
                    have h := Option.some.inj h
                    subst h
                    exact finR1 hK rfl (RV.tmp hK rfl) ⟨rfl, hM.ext⟩
                  · have h := bif_f hb148 h
                    have hK := hK.re (d := 58) rfl (congrArg Value.bool hb148)
                    refine s_val hK rfl rfl rfl (r_fa fa92_3 hK rfl rfl) fun a hK => ?_
                    refine s_val hK rfl rfl rfl (r_ldb t13 hM 0 hb147 3 hK rfl rfl rfl rfl rfl) fun a hK => ?_
                    refine s_val hK rfl rfl rfl (r_fa fa40_1 hK rfl rfl) fun a hK => ?_
                    refine s_val hK rfl rfl rfl (r_fa fa35_1 hK rfl rfl) fun a hK => ?_
                    refine s_val hK rfl rfl rfl (r_ldb t13 hM 1 hb15 2 hK rfl rfl rfl rfl rfl) fun a hK => ?_
                    iterate 3 (refine s1 hK rfl rfl rfl rfl fun a hK => ?_)
                    refine bsplit (decide (x141.fD > r1.fPallet.fD)) (fun hb149 => ?_) (fun hb149 => ?_)
                    · have h := bif_t hb149 h
                      have hK := hK.re (d := 66) rfl (congrArg Value.bool hb149)
                      refine sk hK rfl rfl rfl fun a hK => ?_
                      refine sk hK rfl rfl rfl fun a hK => ?_
                      refine sk hK rfl rfl rfl fun a hK => ?_
                      refine sk hK rfl rfl rfl fun a hK => ?_
                      refine sk hK rfl rfl rfl fun a hK => ?_
                      refine sk hK rfl rfl rfl fun a hK => ?_
                      iterate 2 (refine s1 hK rfl rfl rfl rfl fun a hK => ?_)
                      refine sk hK rfl rfl rfl fun a hK => ?_
                      refine sk hK rfl rfl rfl fun a hK => ?_
                      refine sk hK rfl rfl rfl fun a hK => ?_
                      refine sk hK rfl rfl rfl fun a hK => ?_
                      refine sk hK rfl rfl rfl fun a hK => ?_
                      refine sk hK rfl rfl rfl fun a hK => ?_
                      refine sk hK rfl rfl rfl fun a hK => ?_
                      refine sk hK rfl rfl rfl fun a hK => ?_
                      refine sk hK rfl rfl rfl fun a hK => ?_
                      refine s1 hK rfl rfl rfl rfl fun a hK => ?_
                      have hK := hK.keep [1, 6, 84] rfl
                      refine wpList_nil (nm_then ?_)
                      refine wp_cond_true (hK.ev rfl) ?_
                      refine wp_seq ?_
                      refine wp_region_lit ?_
                      refine s1 hK rfl rfl rfl rfl fun a hK => ?_
                      refine wpList_nil (nm_then ?_)
                      refine wp_ret (rt_block (rt_then (rt_then (rt_block (rt_then ?_)))))
                      have h := Option.some.inj h
                      subst h
                      exact finR1 hK rfl (RV.tmp hK rfl) ⟨rfl, hM.ext⟩
                    · have h := bif_f hb149 h
                      have hK := hK.re (d := 66) rfl (congrArg Value.bool hb149)
                      refine s_val hK rfl rfl rfl (r_fa fa92_2 hK rfl rfl) fun a hK => ?_
                      refine s_val hK rfl rfl rfl (r_ldb t13 hM 0 hb147 2 hK rfl rfl rfl rfl rfl) fun a hK => ?_
                      refine s_val hK rfl rfl rfl (r_fa fa40_1 hK rfl rfl) fun a hK => ?_
                      refine s_val hK rfl rfl rfl (r_fa fa35_2 hK rfl rfl) fun a hK => ?_
                      refine s_val hK rfl rfl rfl (r_ldb t13 hM 1 hb15 3 hK rfl rfl rfl rfl rfl) fun a hK => ?_
                      iterate 3 (refine s1 hK rfl rfl rfl rfl fun a hK => ?_)
                      refine bsplit (decide (x141.fH > r1.fPallet.fH)) (fun hb150 => ?_) (fun hb150 => ?_)
                      · have h := bif_t hb150 h
                        have hK := hK.re (d := 74) rfl (congrArg Value.bool hb150)
                        refine sk hK rfl rfl rfl fun a hK => ?_
                        refine sk hK rfl rfl rfl fun a hK => ?_
                        refine sk hK rfl rfl rfl fun a hK => ?_
                        refine sk hK rfl rfl rfl fun a hK => ?_
                        refine sk hK rfl rfl rfl fun a hK => ?_
                        refine sk hK rfl rfl rfl fun a hK => ?_
                        refine sk hK rfl rfl rfl fun a hK => ?_
                        refine sk hK rfl rfl rfl fun a hK => ?_
                        refine sk hK rfl rfl rfl fun a hK => ?_
                        refine s1 hK rfl rfl rfl rfl fun a hK => ?_
                        have hK := hK.keep [1, 6, 84] rfl
                        refine wpList_nil (nm_then ?_)
                        refine wp_cond_true (hK.ev rfl) ?_
                        refine wp_seq ?_
                        refine wp_region_lit ?_
                        refine s1 hK rfl rfl rfl rfl fun a hK => ?_
                        refine wpList_nil (nm_then ?_)
                        refine wp_ret (rt_block (rt_then (rt_then (rt_block (rt_then ?_)))))
                        have h := Option.some.inj h
                        subst h
                        exact finR1 hK rfl (RV.tmp hK rfl) ⟨rfl, hM.ext⟩
                      · have h := bif_f hb150 h
                        have hK := hK.re (d := 74) rfl (congrArg Value.bool hb150)
                        refine s_val hK rfl rfl rfl (r_fa fa92_4 hK rfl rfl) fun a hK => ?_
                        refine s_val hK rfl rfl rfl (r_ldb t13 hM 0 hb147 4 hK rfl rfl rfl rfl rfl) fun a hK => ?_
                        refine s_val hK rfl rfl rfl (r_fa fa92_5 hK rfl rfl) fun a hK => ?_
                        refine s_val hK rfl rfl rfl (r_ldb t13 hM 0 hb147 5 hK rfl rfl rfl rfl rfl) fun a hK => ?_
                        refine s1 hK rfl rfl rfl rfl fun a hK => ?_
                        refine s_val hK rfl rfl rfl (r_fa fa40_1 hK rfl rfl) fun a hK => ?_
                        refine s_val hK rfl rfl rfl (r_fa fa35_3 hK rfl rfl) fun a hK => ?_
                        refine s_val hK rfl rfl rfl (r_ldb t13 hM 1 hb15 4 hK rfl rfl rfl rfl rfl) fun a hK => ?_
                        iterate 2 (refine s1 hK rfl rfl rfl rfl fun a hK => ?_)
                        have hK := hK.keep [1, 6, 84] rfl
                        refine wpList_nil (nm_then ?_)
                        refine c_cond (b := decide ((w64 (x141.fTare + x141.fGram)) > r1.fPallet.fGram)) hK rfl (fun hb151 => ?_) (fun hb151 => ?_)
                        · have h := bif_t hb151 h
                          refine wp_seq ?_
                          refine wp_region_lit ?_
                          refine s1 hK rfl rfl rfl rfl fun a hK => ?_
                          refine wpList_nil (nm_then ?_)
                          refine wp_ret (rt_block (rt_then (rt_then (rt_block (rt_then ?_)))))
                          have h := Option.some.inj h
                          subst h
                          exact finR1 hK rfl (RV.tmp hK rfl) ⟨rfl, hM.ext⟩
                        · have h := bif_f hb151 h
                          refine wp_skip (nm_block (nm_then ?_))
                          exact ⟨hK.keep [1, 6] rfl, hM.sel [1] rfl (by decide), h⟩
              · have h := bif_f hb128 h
                refine wp_exit (ex_then (ex_then (ex_same (nm_then ?_))))
                refine wp_seq ?_
                refine wp_region_lit ?_
                refine s1 hK rfl rfl rfl rfl fun a hK => ?_
                refine wpList_nil (nm_then ?_)
                refine wp_ret ?_
                have h := Option.some.inj h
                subst h
                exact finR1 hK rfl (RV.tmp hK rfl) ⟨rfl, hM.ext⟩
            · exact ⟨0, hK.keep [1, 6] rfl, hM.sel [0] rfl (by decide), h⟩
        · exact ⟨0, hK.keep [1, 3, 5] rfl, hM.sel [1, 0] rfl (by decide), h⟩

theorem c_spec_l6Units (fu : Nat) {w0 : World} (r1 : Request) {cs2 : List Value} {F3 : List Nat} (hp4 : rd w0 F3 cs2 r1) {r : (List Int)}
    (h : d_spec_l6Units fu r1 = some r) :
    Calls Tryz.prog 106 #[.agg cs2.toArray] w0 fun e w => ∃ (v0 : Value) (G0 : List Nat), e = .returned (v0) ∧ Ext [] w0 w ∧ ow w G0 [v0] r ∧ (∀ b ∈ G0, w0.heap.size ≤ b) := by
  refine enter (vs := [_]) Tryz.func106 rfl Tryz.ntmps106 rfl fun a hK => ?_
  have hM := St.start w0
  obtain ⟨v5, F6, v7, F8, v9, F10, rfl, rfl, hf11, hf12, hf13⟩ := hp4
  unfold d_spec_l6Units at h
  refine wp_seq ?_
  refine wp_region_lit ?_
  refine s_box (cs := [.int .i64 (r1.fWay), .int .i64 (r1.fPallet.fW), .int .i64 (r1.fPallet.fD), .int .i64 (r1.fPallet.fH), .int .i64 (r1.fPallet.fGram), .int .i64 (r1.fClasses), v5, v7, .int .i64 (r1.fMaster), v9]) hM hK rfl rfl rfl rfl rfl rfl fun b14 w16 a hK hM hE hb15 => ?_
  refine s1 hK rfl rfl rfl rfl fun a hK => ?_
  refine wpList_nil (nm_then ?_)
  refine wp_seq ?_
  refine wp_region_lit ?_
  refine s_bs (cs := []) (ps := []) te29 hM hK rfl rfl rfl rfl rfl rfl rfl (by decide) rfl (by exact (List.forall_mem_nil _)) fun g17 w18 e20 a hK hM hE hb19 => ?_
  have hf21 := ow_bx hb19 ([] : List Int) rfl rfl rfl
  refine s1 hK rfl rfl rfl rfl fun a hK => ?_
  refine wpList_nil (nm_then ?_)
  refine wp_seq ?_
  refine wp_seq ?_
  refine wp_region_lit ?_
  refine s1 hK rfl rfl rfl rfl fun a hK => ?_
  refine wpList_nil (nm_then ?_)
  refine wp_block ?_
  refine c_loop (fun n a w => ∃ (out149 : List Int) (v150 : Value) (F151 : List Nat) (u152 : World) (i154 : Int), K 29 [(1, .pointer (some (⟨b14, 0, none⟩ : Addr))), (3, v150), (4, .int .i64 (i154))] a ∧ St [] w0 w [([b14], w16), (F151, u152)] ∧ ow u152 F151 [v150] out149 ∧ d_spec_l6Units_L2 fu r1 n out149 i154 = some r) ?_ ?_ fu _ _ ?_
  · rintro a w ⟨_, _, _, _, _, _, _, _, h⟩
    cases (show none = some _ from h)
  · rintro m155 a w148 ⟨out149, v150, F151, u152, i154, hK, hM, hf153, h⟩
    rw [d_spec_l6Units_L2_s] at h
    unfold d_spec_l6Units_L2_B at h
    refine wp_seq ?_
    refine wp_seq ?_
    refine wp_region_lit ?_
    refine s1 hK rfl rfl rfl rfl fun a hK => ?_
    refine s_val hK rfl rfl rfl (r_fa fa40_6 hK rfl rfl) fun a hK => ?_
    refine s_val hK rfl rfl rfl (r_ldb t138 hM 0 hb15 9 hK rfl rfl rfl rfl rfl) fun a hK => ?_
    refine s_val hK rfl rfl rfl (r_len (α := Item) hf13 hK Tryz.underlying38 rfl rfl) fun a hK => ?_
    refine s1 hK rfl rfl rfl rfl fun a hK => ?_
    refine wpList_nil (nm_then ?_)
    refine c_cond (b := decide (i154 < ((r1.fItems.length : Int)))) hK rfl (fun hb156 => ?_) (fun hb156 => ?_)
    · have h := bif_t hb156 h
      refine wp_skip (nm_then ?_)
      refine wp_seq ?_
      refine wp_block ?_
      refine wp_seq ?_
      refine wp_region_lit ?_
      refine s1 hK rfl rfl rfl rfl fun a hK => ?_
      refine wpList_nil (nm_then ?_)
      refine wp_block ?_
      refine c_loop (fun n a w => ∃ (out194 : List Int) (v195 : Value) (F196 : List Nat) (u197 : World) (kv199 : Int), K 29 [(1, .pointer (some (⟨b14, 0, none⟩ : Addr))), (3, v195), (4, .int .i64 (i154)), (5, .int .i64 (kv199))] a ∧ St [] w0 w [([b14], w16), (F196, u197)] ∧ ow u197 F196 [v195] out194 ∧ d_spec_l6Units_L1 fu (d_spec_l6Units_L2 fu r1 m155) r1 i154 n out194 kv199 = some r) ?_ ?_ fu _ _ ?_
      · rintro a w ⟨_, _, _, _, _, _, _, _, h⟩
        cases (show none = some _ from h)
      · rintro m200 a w193 ⟨out194, v195, F196, u197, kv199, hK, hM, hf198, h⟩
        rw [d_spec_l6Units_L1_s] at h
        unfold d_spec_l6Units_L1_B at h
        refine wp_seq ?_
        refine wp_seq ?_
        refine wp_region_lit ?_
        refine s1 hK rfl rfl rfl rfl fun a hK => ?_
        refine s_val hK rfl rfl rfl (r_fa fa40_6 hK rfl rfl) fun a hK => ?_
        refine s_val hK rfl rfl rfl (r_ldb t138 hM 0 hb15 9 hK rfl rfl rfl rfl rfl) fun a hK => ?_
        refine s1 hK rfl rfl rfl rfl fun a hK => ?_
        obtain ⟨x201, hx202, h⟩ := obind_some h
        refine s_val hK rfl rfl rfl (r_ixa hf13 hx202 hK ts38 rfl rfl rfl) fun a hK => ?_
        refine s_val hK rfl rfl rfl (r_fa fa120_6 hK rfl rfl) fun a hK => ?_
        refine s_val hK rfl rfl rfl (r_lde1 hf13 (hM.a00 (Enc.rd_lt hf13)) hx202 6 t13 hK rfl rfl rfl rfl) fun a hK => ?_
        refine s1 hK rfl rfl rfl rfl fun a hK => ?_
        refine wpList_nil (nm_then ?_)
        refine c_cond (b := decide (kv199 < x201.fCount)) hK rfl (fun hb203 => ?_) (fun hb203 => ?_)
        · have h := bif_t hb203 h
          refine wp_skip (nm_then ?_)
          refine wp_seq ?_
          refine wp_block ?_
          refine wp_region_lit ?_
          iterate 2 (refine s1 hK rfl rfl rfl rfl fun a hK => ?_)
          refine s_bs (cs := [.int .i64 (i154)]) (ps := [(0, .tmp 25)]) te29 hM hK rfl rfl rfl rfl rfl rfl rfl (by decide) rfl (by exact (List.forall_mem_cons.2 ⟨rfl, (List.forall_mem_nil _)⟩)) fun g204 w205 e207 a hK hM hE hb206 => ?_
          have hf208 := ow_bx hb206 ([i154] : List Int) rfl rfl rfl
          obtain ⟨x209, hx210, h⟩ := obind_some h
          refine s_appF hx210 te29 rfl hM 2 hf198 (News.rd (Enc.rd_agr (Enc.ow_rd hf208) (hM.a 0 rfl))) rfl rfl hK rfl rfl rfl rfl rfl rfl rfl fun v211 F212 w213 a hK hE hM hf214 => ?_
          refine s1 hK rfl rfl rfl rfl fun a hK => ?_
          refine wpList_nil (nm_block (nm_then ?_))
          refine wp_region_lit ?_
          iterate 3 (refine s1 hK rfl rfl rfl rfl fun a hK => ?_)
          refine wpList_nil (nm_then ?_)
          exact ⟨x209, v211, F212, w213, w64 (kv199 + 1), hK.keep [1, 3, 4, 5] rfl, hM.sel [1, 2] rfl (by decide), hf214, h⟩
        · have h := bif_f hb203 h
          refine wp_exit (ex_then (ex_then (ex_same (nm_block (nm_then ?_)))))
          refine wp_region_lit ?_
          iterate 3 (refine s1 hK rfl rfl rfl rfl fun a hK => ?_)
          refine wpList_nil (nm_then ?_)
          exact ⟨out194, v195, F196, u197, w64 (i154 + 1), hK.keep [1, 3, 4] rfl, hM.sel [0, 1] rfl (by decide), hf198, h⟩
      · exact ⟨out149, v150, F151, u152, 0, hK.keep [1, 3, 4, 5] rfl, hM.sel [0, 1] rfl (by decide), hf153, h⟩
    · have h := bif_f hb156 h
      refine wp_exit (ex_then (ex_then (ex_same (nm_then ?_))))
      refine wp_seq ?_
      refine wp_region_lit ?_
      iterate 2 (refine s1 hK rfl rfl rfl rfl fun a hK => ?_)
      refine wpList_nil (nm_then ?_)
      refine wp_ret ?_
      have h := Option.some.inj h
      subst h
      exact finR1 hK rfl (RV.tmp hK rfl) ⟨_, F151, rfl, hM.ext, (Enc.ow_agr hf153 (hM.a 1 rfl)), (hM.fresh 1 rfl)⟩
  · exact ⟨([] : List Int), (.slice (some ⟨g17, 0, none⟩) 0 0), [g17], w18, 0, hK.keep [1, 3, 4] rfl, hM.sel [1, 0] rfl (by decide), hf21, h⟩

theorem c_spec_Units (fu : Nat) {w0 : World} (r1 : Request) {cs2 : List Value} {F3 : List Nat} (hp4 : rd w0 F3 cs2 r1) {r : (List Int)}
    (h : d_spec_Units fu r1 = some r) :
    Calls Tryz.prog 83 #[.agg cs2.toArray] w0 fun e w => ∃ (v0 : Value) (G0 : List Nat), e = .returned (v0) ∧ Ext [] w0 w ∧ ow w G0 [v0] r ∧ (∀ b ∈ G0, w0.heap.size ≤ b) := by
  refine enter (vs := [_]) Tryz.func83 rfl Tryz.ntmps83 rfl fun a hK => ?_
  have hM := St.start w0
  obtain ⟨v5, F6, v7, F8, v9, F10, rfl, rfl, hf11, hf12, hf13⟩ := hp4
  unfold d_spec_Units at h
  refine wp_seq ?_
  refine wp_region_lit ?_
  refine s_box (cs := [.int .i64 (r1.fWay), .int .i64 (r1.fPallet.fW), .int .i64 (r1.fPallet.fD), .int .i64 (r1.fPallet.fH), .int .i64 (r1.fPallet.fGram), .int .i64 (r1.fClasses), v5, v7, .int .i64 (r1.fMaster), v9]) hM hK rfl rfl rfl rfl rfl rfl fun b14 w16 a hK hM hE hb15 => ?_
  refine s1 hK rfl rfl rfl rfl fun a hK => ?_
  refine wpList_nil (nm_then ?_)
  refine wp_seq ?_
  refine wp_seq ?_
  refine wp_region_lit ?_
  refine s_val hK rfl rfl rfl (r_ldB ta40 hM 0 hb15 0 hK rfl rfl rfl rfl rfl rfl) fun a hK => ?_
  obtain ⟨x17, hx18, h⟩ := obind_some h
  refine s_call hK Tryz.call68 rfl rfl rfl rfl rfl (c_spec_Class fu _ (show rd _ _ [.int .i64 (r1.fWay), .int .i64 (r1.fPallet.fW), .int .i64 (r1.fPallet.fD), .int .i64 (r1.fPallet.fH), .int .i64 (r1.fPallet.fGram), .int .i64 (r1.fClasses), v5, v7, .int .i64 (r1.fMaster), v9] (r1 : Request) from ⟨_, _, _, _, _, _, rfl, rfl, (Enc.rd_agr hf11 (hM.a00 (Enc.rd_lt hf11))), (Enc.rd_agr hf12 (hM.a00 (Enc.rd_lt hf12))), (Enc.rd_agr hf13 (hM.a00 (Enc.rd_lt hf13)))⟩) hx18) fun e19 w20 hR => ?_
  obtain ⟨rfl, hE⟩ := hR
  refine ⟨_, rfl, fun a hK => ?_⟩
  have hM := hM.step hE
  refine s1 hK rfl rfl rfl rfl fun a hK => ?_
  refine wpList_nil (nm_then ?_)
  refine c_cond (b := x17 != 0) hK rfl (fun hb21 => ?_) (fun hb21 => ?_)
  · have h := bif_t hb21 h
    refine wp_seq ?_
    refine wp_region_lit ?_
    refine s_bs (cs := []) (ps := []) te29 hM hK rfl rfl rfl rfl rfl rfl rfl (by decide) rfl (by exact (List.forall_mem_nil _)) fun g22 w23 e25 a hK hM hE hb24 => ?_
    have hf26 := ow_bx hb24 ([] : List Int) rfl rfl rfl
    refine s1 hK rfl rfl rfl rfl fun a hK => ?_
    refine wpList_nil (nm_then ?_)
    refine wp_ret (rt_then ?_)
    have h := Option.some.inj h
    subst h
    exact finR1 hK rfl (RV.tmp hK rfl) ⟨_, [g22], rfl, hM.ext, (Enc.ow_agr hf26 (hM.a 0 rfl)), (hM.fresh 0 rfl)⟩
  · have h := bif_f hb21 h
    refine wp_skip (nm_then ?_)
    refine wp_seq ?_
    refine wp_region_lit ?_
    refine s_val hK rfl rfl rfl (r_ldB ta40 hM 0 hb15 0 hK rfl rfl rfl rfl rfl rfl) fun a hK => ?_
    obtain ⟨x27, hx28, h⟩ := obind_some h
    refine s_call hK Tryz.call106 rfl rfl rfl rfl rfl (c_spec_l6Units fu _ (show rd _ _ [.int .i64 (r1.fWay), .int .i64 (r1.fPallet.fW), .int .i64 (r1.fPallet.fD), .int .i64 (r1.fPallet.fH), .int .i64 (r1.fPallet.fGram), .int .i64 (r1.fClasses), v5, v7, .int .i64 (r1.fMaster), v9] (r1 : Request) from ⟨_, _, _, _, _, _, rfl, rfl, (Enc.rd_agr hf11 (hM.a00 (Enc.rd_lt hf11))), (Enc.rd_agr hf12 (hM.a00 (Enc.rd_lt hf12))), (Enc.rd_agr hf13 (hM.a00 (Enc.rd_lt hf13)))⟩) hx28) fun e29 w30 hR => ?_
    obtain ⟨v35, F31, rfl, hE, hf32, hfr33⟩ := hR
    refine ⟨_, rfl, fun a hK => ?_⟩
    have hM := hM.new hE F31 (fun b hb => ⟨hfr33 b hb, Enc.rd_lt (Enc.ow_rd hf32) b hb⟩) (Enc.ow_nd hf32)
    refine s1 hK rfl rfl rfl rfl fun a hK => ?_
    refine wpList_nil (nm_then ?_)
    refine wp_ret ?_
    have h := Option.some.inj h
    subst h
    exact finR1 hK rfl (RV.tmp hK rfl) ⟨_, F31, rfl, hM.ext, (Enc.ow_agr hf32 (hM.a 0 rfl)), (hM.fresh 0 rfl)⟩

theorem c_spec_OneEach (fu : Nat) {w0 : World} (r1 : Request) {cs2 : List Value} {F3 : List Nat} (hp4 : rd w0 F3 cs2 r1) {r : (List (List Int))}
    (h : d_spec_OneEach fu r1 = some r) :
    Calls Tryz.prog 23 #[.agg cs2.toArray] w0 fun e w => ∃ (v0 : Value) (G0 : List Nat), e = .returned (v0) ∧ Ext [] w0 w ∧ ow w G0 [v0] r ∧ (∀ b ∈ G0, w0.heap.size ≤ b) := by
  refine enter (vs := [_]) Tryz.func23 rfl Tryz.ntmps23 rfl fun a hK => ?_
  have hM := St.start w0
  obtain ⟨v5, F6, v7, F8, v9, F10, rfl, rfl, hf11, hf12, hf13⟩ := hp4
  unfold d_spec_OneEach at h
  refine wp_seq ?_
  refine wp_region_lit ?_
  refine s_box (cs := [.int .i64 (r1.fWay), .int .i64 (r1.fPallet.fW), .int .i64 (r1.fPallet.fD), .int .i64 (r1.fPallet.fH), .int .i64 (r1.fPallet.fGram), .int .i64 (r1.fClasses), v5, v7, .int .i64 (r1.fMaster), v9]) hM hK rfl rfl rfl rfl rfl rfl fun b14 w16 a hK hM hE hb15 => ?_
  refine s1 hK rfl rfl rfl rfl fun a hK => ?_
  refine wpList_nil (nm_then ?_)
  refine wp_seq ?_
  refine wp_region_lit ?_
  refine s_bs (cs := []) (ps := []) te47 hM hK rfl rfl rfl rfl rfl rfl rfl (by decide) rfl (by exact (List.forall_mem_nil _)) fun g17 w18 e20 a hK hM hE hb19 => ?_
  have hf21 := ow_bx0 (α := List Int) hb19
  refine s1 hK rfl rfl rfl rfl fun a hK => ?_
  refine wpList_nil (nm_then ?_)
  refine wp_seq ?_
  refine wp_region_lit ?_
  refine s_val hK rfl rfl rfl (r_ldB ta40 hM 1 hb15 0 hK rfl rfl rfl rfl rfl rfl) fun a hK => ?_
  obtain ⟨x22, hx23, h⟩ := obind_some h
  refine s_call hK Tryz.call83 rfl rfl rfl rfl rfl (c_spec_Units fu _ (show rd _ _ [.int .i64 (r1.fWay), .int .i64 (r1.fPallet.fW), .int .i64 (r1.fPallet.fD), .int .i64 (r1.fPallet.fH), .int .i64 (r1.fPallet.fGram), .int .i64 (r1.fClasses), v5, v7, .int .i64 (r1.fMaster), v9] (r1 : Request) from ⟨_, _, _, _, _, _, rfl, rfl, (Enc.rd_agr hf11 (hM.a00 (Enc.rd_lt hf11))), (Enc.rd_agr hf12 (hM.a00 (Enc.rd_lt hf12))), (Enc.rd_agr hf13 (hM.a00 (Enc.rd_lt hf13)))⟩) hx23) fun e24 w25 hR => ?_
  obtain ⟨v30, F26, rfl, hE, hf27, hfr28⟩ := hR
  refine ⟨_, rfl, fun a hK => ?_⟩
  have hM := hM.new hE F26 (fun b hb => ⟨hfr28 b hb, Enc.rd_lt (Enc.ow_rd hf27) b hb⟩) (Enc.ow_nd hf27)
  refine s1 hK rfl rfl rfl rfl fun a hK => ?_
  refine wpList_nil (nm_then ?_)
  refine wp_seq ?_
  refine wp_seq ?_
  refine wp_region_lit ?_
  refine s1 hK rfl rfl rfl rfl fun a hK => ?_
  refine wpList_nil (nm_then ?_)
  refine wp_block ?_
  refine c_loop (fun n a w => ∃ (out78 : List (List Int)) (v79 : Value) (F80 : List Nat) (u81 : World) (u83 : Int), K 21 [(3, v79), (4, v30), (5, .int .i64 (u83))] a ∧ St [] w0 w [(F26, w25), (F80, u81)] ∧ ow u81 F80 [v79] out78 ∧ d_spec_OneEach_L1 fu x22 n out78 u83 = some r) ?_ ?_ fu _ _ ?_
  · rintro a w ⟨_, _, _, _, _, _, _, _, h⟩
    cases (show none = some _ from h)
  · rintro m84 a w77 ⟨out78, v79, F80, u81, u83, hK, hM, hf82, h⟩
    rw [d_spec_OneEach_L1_s] at h
    unfold d_spec_OneEach_L1_B at h
    refine wp_seq ?_
    refine wp_seq ?_
    refine wp_region_lit ?_
    iterate 2 (refine s1 hK rfl rfl rfl rfl fun a hK => ?_)
    refine s_val hK rfl rfl rfl (r_len (α := Int) (Enc.ow_rd hf27) hK Tryz.underlying29 rfl rfl) fun a hK => ?_
    refine s1 hK rfl rfl rfl rfl fun a hK => ?_
    refine wpList_nil (nm_then ?_)
    refine c_cond (b := decide (u83 < ((x22.length : Int)))) hK rfl (fun hb85 => ?_) (fun hb85 => ?_)
    · have h := bif_t hb85 h
      refine wp_skip (nm_then ?_)
      refine wp_seq ?_
      refine wp_block ?_
      refine wp_region_lit ?_
      iterate 2 (refine s1 hK rfl rfl rfl rfl fun a hK => ?_)
      refine s_bs (cs := [.int .i64 (u83)]) (ps := [(0, .tmp 16)]) te29 hM hK rfl rfl rfl rfl rfl rfl rfl (by decide) rfl (by exact (List.forall_mem_cons.2 ⟨rfl, (List.forall_mem_nil _)⟩)) fun g86 w87 e89 a hK hM hE hb88 => ?_
      have hf90 := ow_bx hb88 ([u83] : List Int) rfl rfl rfl
      refine s_bs (cs := [(.slice (some ⟨g86, 0, none⟩) 1 1)]) (ps := [(0, .tmp 17)]) te47 hM hK rfl rfl rfl rfl rfl rfl rfl (by decide) rfl (by exact (List.forall_mem_cons.2 ⟨congrArg Array.size (rd_c (Enc.ow_rd hf90)), (List.forall_mem_nil _)⟩)) fun g91 w92 e94 a hK hM hE hb93 => ?_
      obtain ⟨x95, hx96, h⟩ := obind_some h
      have hy101 := Enc.ow_agr hf90 (hM.a 1 rfl)
      have hn102 := News.box hb93 (hM.a 0 rfl) (by simp) (m := 1)
      have hA103 := hM.a 3 rfl
      have hM := hM.sel [3, 1, 0, 2] rfl (by decide)
      have hM := hM.join2
      refine s_appO (F := F80) (G := [g86]) hx96 te47 rfl hM hf82 hA103 hn102 hy101 (Agr.refl _ _) hK rfl rfl rfl rfl rfl rfl fun v97 F98 w99 a hK hE hM hf100 => ?_
      refine s1 hK rfl rfl rfl rfl fun a hK => ?_
      refine wpList_nil (nm_block (nm_then ?_))
      refine wp_region_lit ?_
      iterate 3 (refine s1 hK rfl rfl rfl rfl fun a hK => ?_)
      refine wpList_nil (nm_then ?_)
      exact ⟨x95, v97, F98, w99, w64 (u83 + 1), hK.keep [3, 4, 5] rfl, hM.sel [2, 0] rfl (by decide), hf100, h⟩
    · have h := bif_f hb85 h
      refine wp_exit (ex_then (ex_then (ex_same (nm_then ?_))))
      refine wp_seq ?_
      refine wp_region_lit ?_
      iterate 2 (refine s1 hK rfl rfl rfl rfl fun a hK => ?_)
      refine wpList_nil (nm_then ?_)
      refine wp_ret ?_
      have h := Option.some.inj h
      subst h
      exact finR1 hK rfl (RV.tmp hK rfl) ⟨_, F80, rfl, hM.ext, (Enc.ow_agr hf82 (hM.a 1 rfl)), (hM.fresh 1 rfl)⟩
  · exact ⟨([] : List (List Int)), (.slice (some ⟨g17, 0, none⟩) 0 0), [g17], w18, 0, hK.keep [3, 4, 5] rfl, hM.sel [0, 1] rfl (by decide), hf21, h⟩

theorem c_impl_TypeById_1 (fu : Nat) {w0 : World} (t1 : Typ) (x2 : Int) {b3 : Nat} (hp4 : bx w0 b3 [.int .i64 (x2)] 3) {r : Bool}
    (h : d_impl_TypeById_1 fu t1 x2 = some r) :
    Calls Tryz.prog 141 #[.agg (Flat.e (t1)).toArray, .pointer (some (⟨b3, 0, none⟩ : Addr))] w0 fun e w => e = .returned (.bool (r)) ∧ Ext [] w0 w := by
  refine enter (vs := [_, _]) Tryz.func141 rfl Tryz.ntmps141 rfl fun a hK => ?_
  have hM := St.start w0
  unfold d_impl_TypeById_1 at h
  refine wp_seq ?_
  refine wp_region_lit ?_
  refine s_box (cs := [.int .i64 (t1.fId), .int .i64 (t1.fW), .int .i64 (t1.fH), .int .i64 (t1.fD), .int .i64 (t1.fTare), .int .i64 (t1.fGram), .int .i64 (t1.fCost)]) hM hK rfl rfl rfl rfl rfl rfl fun b5 w7 a hK hM hE hb6 => ?_
  refine s1 hK rfl rfl rfl rfl fun a hK => ?_
  refine wpList_nil (nm_then ?_)
  refine wp_seq ?_
  refine wp_region_lit ?_
  refine s_val hK rfl rfl rfl (r_fa fa92_0 hK rfl rfl) fun a hK => ?_
  refine s_val hK rfl rfl rfl (r_ldb t13 hM 0 hb6 0 hK rfl rfl rfl rfl rfl) fun a hK => ?_
  refine s_val hK rfl rfl rfl (r_ld1 t13 (r := []) (hp4.at (hM.a00 hp4.lt1) 0 1 rfl rfl rfl) hK rfl rfl) fun a hK => ?_
  iterate 2 (refine s1 hK rfl rfl rfl rfl fun a hK => ?_)
  refine wpList_nil (nm_then ?_)
  refine wp_ret ?_
  have h := Option.some.inj h
  subst h
  exact finR1 hK rfl (RV.tmp hK rfl) ⟨rfl, hM.ext⟩

theorem c_slices_IndexFunc_impl_Type_impl_Type (fu : Nat) {w0 : World} (sv1 : List Typ) (f5 : Typ → Option Bool) {v2 : Value} {F3 : List Nat} (hp4 : rd w0 F3 [v2] sv1) {v6 : Value} (hp7 : FnOk1 Tryz.prog w0 v6 f5) {r : Int}
    (h : d_slices_IndexFunc_impl_Type_impl_Type fu sv1 f5 = some r) :
    Calls Tryz.prog 140 #[v2, v6] w0 fun e w => e = .returned (.int .i64 (r)) ∧ Ext [] w0 w := by
  refine enter (vs := [_, _]) Tryz.func140 rfl Tryz.ntmps140 rfl fun a hK => ?_
  have hM := St.start w0
  obtain ⟨fid8, cap9, rfl, hcl10, hcc11⟩ := hp7
  unfold d_slices_IndexFunc_impl_Type_impl_Type at h
  refine wp_seq ?_
  refine wp_region_lit ?_
  refine s1 hK rfl rfl rfl rfl fun a hK => ?_
  refine wpList_nil (nm_then ?_)
  refine wp_seq ?_
  refine wp_seq ?_
  refine wp_region_lit ?_
  refine s1 hK rfl rfl rfl rfl fun a hK => ?_
  refine s_val hK rfl rfl rfl (r_len (α := Typ) hp4 hK Tryz.underlying37 rfl rfl) fun a hK => ?_
  refine s1 hK rfl rfl rfl rfl fun a hK => ?_
  refine wpList_nil (nm_then ?_)
  refine wp_block ?_
  refine c_loop (fun n a w => ∃ (x32 : Int), K 19 [(0, v2), (1, (.func (.func fid8) #[] cap9.toArray)), (7, .int .i64 ((sv1.length : Int))), (8, .int .i64 (x32))] a ∧ St [] w0 w [] ∧ d_slices_IndexFunc_impl_Type_impl_Type_L1 fu sv1 f5 n x32 = some r) ?_ ?_ fu _ _ ?_
  · rintro a w ⟨_, _, _, h⟩
    cases (show none = some _ from h)
  · rintro m33 a w31 ⟨x32, hK, hM, h⟩
    rw [d_slices_IndexFunc_impl_Type_impl_Type_L1_s] at h
    unfold d_slices_IndexFunc_impl_Type_impl_Type_L1_B at h
    refine wp_seq ?_
    refine wp_region_lit ?_
    refine s1 hK rfl rfl rfl rfl fun a hK => ?_
    refine wpList_nil (nm_then ?_)
    refine wp_seq ?_
    refine c_cond (b := decide (x32 < ((sv1.length : Int)))) hK rfl (fun hb34 => ?_) (fun hb34 => ?_)
    · have h := bif_t hb34 h
      refine wp_skip (nm_then ?_)
      refine wp_seq ?_
      refine wp_block ?_
      refine wp_seq ?_
      refine wp_region_lit ?_
      iterate 2 (refine s1 hK rfl rfl rfl rfl fun a hK => ?_)
      refine wpList_nil (nm_then ?_)
      refine wp_seq ?_
      refine wp_region_lit ?_
      iterate 3 (refine s1 hK rfl rfl rfl rfl fun a hK => ?_)
      obtain ⟨x35, hx36, h⟩ := obind_some h
      refine s_val hK rfl rfl rfl (r_ixa hp4 hx36 hK ts37 rfl rfl rfl) fun a hK => ?_
      refine s_val hK rfl rfl rfl (r_lde hp4 (hM.a00 (Enc.rd_lt hp4)) hx36 ta92 hK rfl rfl) fun a hK => ?_
      obtain ⟨x37, hx38, h⟩ := obind_some h
      refine s_callv hK hcl10 rfl rfl rfl rfl rfl rfl (hcc11 _ _ _ _ hM.ext rfl hx38) fun e39 w40 hR => ?_
      obtain ⟨rfl, hE⟩ := hR
      refine ⟨_, rfl, fun a hK => ?_⟩
      have hM := hM.step hE
      refine wpList_nil (nm_then ?_)
      refine c_cond (b := x37) hK rfl (fun hb41 => ?_) (fun hb41 => ?_)
      · have h := bif_t hb41 h
        refine wp_seq ?_
        refine wp_region_lit ?_
        iterate 2 (refine s1 hK rfl rfl rfl rfl fun a hK => ?_)
        refine wpList_nil (nm_then ?_)
        refine wp_ret (rt_block (rt_then (rt_then (rt_block (rt_then ?_)))))
        have h := Option.some.inj h
        subst h
        exact finR1 hK rfl (RV.tmp hK rfl) ⟨rfl, hM.ext⟩
      · have h := bif_f hb41 h
        refine wp_skip (nm_block (nm_then ?_))
        refine wp_region_lit ?_
        iterate 2 (refine s1 hK rfl rfl rfl rfl fun a hK => ?_)
        refine wpList_nil (nm_then ?_)
        exact ⟨w64 (x32 + 1), hK.keep [0, 1, 7, 8] rfl, hM.sel [] rfl (by decide), h⟩
    · have h := bif_f hb34 h
      refine wp_exit (ex_then (ex_then (ex_same (nm_then ?_))))
      refine wp_seq ?_
      refine wp_region_lit ?_
      refine s1 hK rfl rfl rfl rfl fun a hK => ?_
      refine wpList_nil (nm_then ?_)
      refine wp_ret ?_
      have h := Option.some.inj h
      subst h
      exact finR1 hK rfl (RV.tmp hK rfl) ⟨rfl, hM.ext⟩
  · exact ⟨0, hK.keep [0, 1, 7, 8] rfl, hM.sel [] rfl (by decide), h⟩

theorem c_impl_TypeById (fu : Nat) {w0 : World} (r1 : Request) (id5 : Int) {cs2 : List Value} {F3 : List Nat} (hp4 : rd w0 F3 cs2 r1) {r : Typ × Bool}
    (h : d_impl_TypeById fu r1 id5 = some r) :
    Calls Tryz.prog 75 #[.agg cs2.toArray, .int .i64 (id5)] w0 fun e w => e = .returned (.tuple #[.agg (Flat.e r.1).toArray, .bool (r.2)]) ∧ Ext [] w0 w := by
  refine enter (vs := [_, _]) Tryz.func75 rfl Tryz.ntmps75 rfl fun a hK => ?_
  have hM := St.start w0
  obtain ⟨v6, F7, v8, F9, v10, F11, rfl, rfl, hf12, hf13, hf14⟩ := hp4
  unfold d_impl_TypeById at h
  refine wp_seq ?_
  refine wp_region_lit ?_
  refine s_box (cs := [.int .i64 (r1.fWay), .int .i64 (r1.fPallet.fW), .int .i64 (r1.fPallet.fD), .int .i64 (r1.fPallet.fH), .int .i64 (r1.fPallet.fGram), .int .i64 (r1.fClasses), v6, v8, .int .i64 (r1.fMaster), v10]) hM hK rfl rfl rfl rfl rfl rfl fun b15 w17 a hK hM hE hb16 => ?_
  refine s_box (cs := [.int .i64 (id5)]) hM hK rfl rfl rfl rfl rfl rfl fun b18 w20 a hK hM hE hb19 => ?_
  refine s_alloc (cs := [.int .i64 (0), .int .i64 (0), .int .i64 (0), .int .i64 (0), .int .i64 (0), .int .i64 (0), .int .i64 (0)]) hM hK Tryz.zeroValue92 rfl rfl rfl rfl rfl fun b21 w23 a hK hM hE hb22 => ?_
  refine s1 hK rfl rfl rfl rfl fun a hK => ?_
  refine wpList_nil (nm_then ?_)
  refine wp_seq ?_
  refine wp_region_lit ?_
  refine s_val hK rfl rfl rfl (r_fa fa40_4 hK rfl rfl) fun a hK => ?_
  refine s_val hK rfl rfl rfl (r_ldb t137 hM 2 hb16 7 hK rfl rfl rfl rfl rfl) fun a hK => ?_
  refine s1 hK rfl rfl rfl rfl fun a hK => ?_
  obtain ⟨x27, hx28, h⟩ := obind_some h
  refine s_call hK Tryz.call140 rfl rfl rfl rfl rfl (c_slices_IndexFunc_impl_Type_impl_Type fu _ _ (Enc.rd_agr hf13 (hM.a00 (Enc.rd_lt hf13))) ⟨141, [.pointer (some (⟨b18, 0, none⟩ : Addr))], rfl, Tryz.call141, fun w y24 v25 r hE hv26 hx => by subst hv26; have hM := hM.step hE; exact c_impl_TypeById_1 fu _ _ (hb19.agr (hM.a 1 rfl) (by simp)) hx⟩ hx28) fun e29 w30 hR => ?_
  obtain ⟨rfl, hE⟩ := hR
  refine ⟨_, rfl, fun a hK => ?_⟩
  have hM := hM.step hE
  refine s1 hK rfl rfl rfl rfl fun a hK => ?_
  refine wpList_nil (nm_then ?_)
  refine wp_seq ?_
  refine wp_seq ?_
  refine wp_region_lit ?_
  iterate 2 (refine s1 hK rfl rfl rfl rfl fun a hK => ?_)
  refine wpList_nil (nm_then ?_)
  refine c_cond (b := decide (x27 < 0)) hK rfl (fun hb31 => ?_) (fun hb31 => ?_)
  · have h := bif_t hb31 h
    refine wp_seq ?_
    refine wp_region_lit ?_
    refine s_val hK rfl rfl rfl (r_build bt92 hK (ps := []) rfl rfl rfl) fun a hK => ?_
    refine s_stb (cs' := [.int .i64 (0), .int .i64 (0), .int .i64 (0), .int .i64 (0), .int .i64 (0), .int .i64 (0), .int .i64 (0)]) Tryz.sizeOf92 hM 0 hb22 0 hK rfl rfl rfl rfl rfl rfl rfl rfl rfl rfl rfl fun w32 a hK hE hM hb33 => ?_
    refine s1 hK rfl rfl rfl rfl fun a hK => ?_
    refine wpList_nil (nm_then ?_)
    refine wp_ret (rt_then ?_)
    have h := Option.some.inj h
    subst h
    exact finR2 hK rfl (RV.cA hK rfl ta92 (hb33.at (hM.a 0 rfl) 0 7 rfl rfl rfl) rfl) (RV.tmp hK rfl) ⟨rfl, hM.ext⟩
  · have h := bif_f hb31 h
    refine wp_skip (nm_then ?_)
    refine wp_seq ?_
    refine wp_region_lit ?_
    refine s_val hK rfl rfl rfl (r_fa fa40_4 hK rfl rfl) fun a hK => ?_
    refine s_val hK rfl rfl rfl (r_ldb t137 hM 2 hb16 7 hK rfl rfl rfl rfl rfl) fun a hK => ?_
    refine s1 hK rfl rfl rfl rfl fun a hK => ?_
    obtain ⟨x34, hx35, h⟩ := obind_some h
    refine s_val hK rfl rfl rfl (r_ixa hf13 hx35 hK ts37 rfl rfl rfl) fun a hK => ?_
    refine s_val hK rfl rfl rfl (r_lde hf13 (hM.a00 (Enc.rd_lt hf13)) hx35 ta92 hK rfl rfl) fun a hK => ?_
    refine s_stb (cs' := [.int .i64 (x34.fId), .int .i64 (x34.fW), .int .i64 (x34.fH), .int .i64 (x34.fD), .int .i64 (x34.fTare), .int .i64 (x34.fGram), .int .i64 (x34.fCost)]) Tryz.sizeOf92 hM 0 hb22 0 hK rfl rfl rfl rfl rfl rfl rfl rfl rfl rfl rfl fun w36 a hK hE hM hb37 => ?_
    refine s1 hK rfl rfl rfl rfl fun a hK => ?_
    refine wpList_nil (nm_then ?_)
    refine wp_ret ?_
    have h := Option.some.inj h
    subst h
    exact finR2 hK rfl (RV.cA hK rfl ta92 (hb37.at (hM.a 0 rfl) 0 7 rfl rfl rfl) rfl) (RV.tmp hK rfl) ⟨rfl, hM.ext⟩

theorem c_impl_MasterOf (fu : Nat) {w0 : World} (r1 : Request) {cs2 : List Value} {F3 : List Nat} (hp4 : rd w0 F3 cs2 r1) {r : Typ × Bool}
    (h : d_impl_MasterOf fu r1 = some r) :
    Calls Tryz.prog 148 #[.agg cs2.toArray] w0 fun e w => e = .returned (.tuple #[.agg (Flat.e r.1).toArray, .bool (r.2)]) ∧ Ext [] w0 w := by
  refine enter (vs := [_]) Tryz.func148 rfl Tryz.ntmps148 rfl fun a hK => ?_
  have hM := St.start w0
  obtain ⟨v5, F6, v7, F8, v9, F10, rfl, rfl, hf11, hf12, hf13⟩ := hp4
  unfold d_impl_MasterOf at h
  refine wp_seq ?_
  refine wp_region_lit ?_
  refine s_box (cs := [.int .i64 (r1.fWay), .int .i64 (r1.fPallet.fW), .int .i64 (r1.fPallet.fD), .int .i64 (r1.fPallet.fH), .int .i64 (r1.fPallet.fGram), .int .i64 (r1.fClasses), v5, v7, .int .i64 (r1.fMaster), v9]) hM hK rfl rfl rfl rfl rfl rfl fun b14 w16 a hK hM hE hb15 => ?_
  refine s_alloc (cs := [.int .i64 (0), .int .i64 (0), .int .i64 (0), .int .i64 (0), .int .i64 (0), .int .i64 (0), .int .i64 (0)]) hM hK Tryz.zeroValue92 rfl rfl rfl rfl rfl fun b17 w19 a hK hM hE hb18 => ?_
  refine s1 hK rfl rfl rfl rfl fun a hK => ?_
  refine wpList_nil (nm_then ?_)
  refine wp_seq ?_
  refine wp_region_lit ?_
  refine s_val hK rfl rfl rfl (r_ldB ta40 hM 1 hb15 0 hK rfl rfl rfl rfl rfl rfl) fun a hK => ?_
  refine s_val hK rfl rfl rfl (r_fa fa40_5 hK rfl rfl) fun a hK => ?_
  refine s_val hK rfl rfl rfl (r_ldb t13 hM 1 hb15 8 hK rfl rfl rfl rfl rfl) fun a hK => ?_
  obtain ⟨x20, hx21, h⟩ := obind_some h
  refine s_call hK Tryz.call75 rfl rfl rfl rfl rfl (c_impl_TypeById fu _ _ (show rd _ _ [.int .i64 (r1.fWay), .int .i64 (r1.fPallet.fW), .int .i64 (r1.fPallet.fD), .int .i64 (r1.fPallet.fH), .int .i64 (r1.fPallet.fGram), .int .i64 (r1.fClasses), v5, v7, .int .i64 (r1.fMaster), v9] (r1 : Request) from ⟨_, _, _, _, _, _, rfl, rfl, (Enc.rd_agr hf11 (hM.a00 (Enc.rd_lt hf11))), (Enc.rd_agr hf12 (hM.a00 (Enc.rd_lt hf12))), (Enc.rd_agr hf13 (hM.a00 (Enc.rd_lt hf13)))⟩) hx21) fun e22 w23 hR => ?_
  obtain ⟨rfl, hE⟩ := hR
  refine ⟨_, rfl, fun a hK => ?_⟩
  have hM := hM.step hE
  iterate 2 (refine s1 hK rfl rfl rfl rfl fun a hK => ?_)
  refine s_stb (cs' := [.int .i64 (x20.1.fId), .int .i64 (x20.1.fW), .int .i64 (x20.1.fH), .int .i64 (x20.1.fD), .int .i64 (x20.1.fTare), .int .i64 (x20.1.fGram), .int .i64 (x20.1.fCost)]) Tryz.sizeOf92 hM 0 hb18 0 hK rfl rfl rfl rfl rfl rfl rfl rfl rfl rfl rfl fun w24 a hK hE hM hb25 => ?_
  refine s1 hK rfl rfl rfl rfl fun a hK => ?_
  refine wpList_nil (nm_then ?_)
  refine wp_ret ?_
  have h := Option.some.inj h
  subst h
  exact finR2 hK rfl (RV.cA hK rfl ta92 (hb25.at (hM.a 0 rfl) 0 7 rfl rfl rfl) rfl) (RV.tmp hK rfl) ⟨rfl, hM.ext⟩

theorem c_impl_in (fu : Nat) {w0 : World} (n1 : Int) (lo2 : Int) (hi3 : Int)  {r : Bool}
    (h : d_impl_in fu n1 lo2 hi3 = some r) :
    Calls Tryz.prog 99 #[.int .i64 (n1), .int .i64 (lo2), .int .i64 (hi3)] w0 fun e w => e = .returned (.bool (r)) ∧ Ext [] w0 w := by
  refine enter (vs := [_, _, _]) Tryz.func99 rfl Tryz.ntmps99 rfl fun a hK => ?_
  have hM := St.start w0
  unfold d_impl_in at h
  refine wp_seq ?_
  refine wp_region_lit ?_
  refine s1 hK rfl rfl rfl rfl fun a hK => ?_
  refine wpList_nil (nm_then ?_)
  refine wp_seq ?_
  refine wp_region_lit ?_
  iterate 4 (refine s1 hK rfl rfl rfl rfl fun a hK => ?_)
  refine bsplit (decide (n1 ≥ lo2)) (fun hb4 => ?_) (fun hb4 => ?_)
  · have h := bif_t hb4 h
    have hK := hK.re (d := 10) rfl (congrArg Value.bool hb4)
    iterate 5 (refine s1 hK rfl rfl rfl rfl fun a hK => ?_)
    refine wpList_nil (nm_then ?_)
    refine wp_ret ?_
    have h := Option.some.inj h
    subst h
    exact finR1 hK rfl (RV.tmp hK rfl) ⟨rfl, hM.ext⟩
  · have h := bif_f hb4 h
    have hK := hK.re (d := 10) rfl (congrArg Value.bool hb4)
    refine sk hK rfl rfl rfl fun a hK => ?_
    refine sk hK rfl rfl rfl fun a hK => ?_
    refine sk hK rfl rfl rfl fun a hK => ?_
    iterate 2 (refine s1 hK rfl rfl rfl rfl fun a hK => ?_)
    refine wpList_nil (nm_then ?_)
    refine wp_ret ?_
    have h := Option.some.inj h
    subst h
    exact finR1 hK rfl (RV.tmp hK rfl) ⟨rfl, hM.ext⟩

theorem c_impl_isSide (fu : Nat) {w0 : World} (n1 : Int)  {r : Bool}
    (h : d_impl_isSide fu n1 = some r) :
    Calls Tryz.prog 224 #[.int .i64 (n1)] w0 fun e w => e = .returned (.bool (r)) ∧ Ext [] w0 w := by
  refine enter (vs := [_]) Tryz.func224 rfl Tryz.ntmps224 rfl fun a hK => ?_
  have hM := St.start w0
  unfold d_impl_isSide at h
  refine wp_seq ?_
  refine wp_region_lit ?_
  refine s1 hK rfl rfl rfl rfl fun a hK => ?_
  refine wpList_nil (nm_then ?_)
  refine wp_seq ?_
  refine wp_region_lit ?_
  refine s1 hK rfl rfl rfl rfl fun a hK => ?_
  obtain ⟨x2, hx3, h⟩ := obind_some h
  refine s_call hK Tryz.call99 rfl rfl rfl rfl rfl (c_impl_in fu _ _ _  hx3) fun e4 w5 hR => ?_
  obtain ⟨rfl, hE⟩ := hR
  refine ⟨_, rfl, fun a hK => ?_⟩
  have hM := hM.step hE
  refine s1 hK rfl rfl rfl rfl fun a hK => ?_
  refine wpList_nil (nm_then ?_)
  refine wp_ret ?_
  have h := Option.some.inj h
  subst h
  exact finR1 hK rfl (RV.tmp hK rfl) ⟨rfl, hM.ext⟩

theorem c_impl_PalletOk (fu : Nat) {w0 : World} (x1 : Pallet)  {r : Bool}
    (h : d_impl_PalletOk fu x1 = some r) :
    Calls Tryz.prog 199 #[.agg (Flat.e (x1)).toArray] w0 fun e w => e = .returned (.bool (r)) ∧ Ext [] w0 w := by
  refine enter (vs := [_]) Tryz.func199 rfl Tryz.ntmps199 rfl fun a hK => ?_
  have hM := St.start w0
  unfold d_impl_PalletOk at h
  refine wp_seq ?_
  refine wp_region_lit ?_
  refine s_box (cs := [.int .i64 (x1.fW), .int .i64 (x1.fD), .int .i64 (x1.fH), .int .i64 (x1.fGram)]) hM hK rfl rfl rfl rfl rfl rfl fun b2 w4 a hK hM hE hb3 => ?_
  refine s1 hK rfl rfl rfl rfl fun a hK => ?_
  refine wpList_nil (nm_then ?_)
  refine wp_seq ?_
  refine wp_region_lit ?_
  refine s_val hK rfl rfl rfl (r_fa fa35_0 hK rfl rfl) fun a hK => ?_
  refine s_val hK rfl rfl rfl (r_ldb t13 hM 0 hb3 0 hK rfl rfl rfl rfl rfl) fun a hK => ?_
  obtain ⟨x5, hx6, h⟩ := obind_some h
  refine s_call hK Tryz.call224 rfl rfl rfl rfl rfl (c_impl_isSide fu _  hx6) fun e7 w8 hR => ?_
  obtain ⟨rfl, hE⟩ := hR
  refine ⟨_, rfl, fun a hK => ?_⟩
  have hM := hM.step hE
  refine s1 hK rfl rfl rfl rfl fun a hK => ?_
  refine bsplit (x5) (fun hb9 => ?_) (fun hb9 => ?_)
  · have h := bif_t hb9 h
    have hK := hK.re (d := 6) rfl (congrArg Value.bool hb9)
    refine s_val hK rfl rfl rfl (r_fa fa35_1 hK rfl rfl) fun a hK => ?_
    refine s_val hK rfl rfl rfl (r_ldb t13 hM 0 hb3 1 hK rfl rfl rfl rfl rfl) fun a hK => ?_
    obtain ⟨x10, hx11, h⟩ := obind_some h
    refine s_call hK Tryz.call224 rfl rfl rfl rfl rfl (c_impl_isSide fu _  hx11) fun e12 w13 hR => ?_
    obtain ⟨rfl, hE⟩ := hR
    refine ⟨_, rfl, fun a hK => ?_⟩
    have hM := hM.step hE
    iterate 2 (refine s1 hK rfl rfl rfl rfl fun a hK => ?_)
    refine bsplit (x10) (fun hb14 => ?_) (fun hb14 => ?_)
    · have h := bif_t hb14 h
      have hK := hK.re (d := 11) rfl (congrArg Value.bool hb14)
      refine s_val hK rfl rfl rfl (r_fa fa35_2 hK rfl rfl) fun a hK => ?_
      refine s_val hK rfl rfl rfl (r_ldb t13 hM 0 hb3 2 hK rfl rfl rfl rfl rfl) fun a hK => ?_
      obtain ⟨x15, hx16, h⟩ := obind_some h
      refine s_call hK Tryz.call224 rfl rfl rfl rfl rfl (c_impl_isSide fu _  hx16) fun e17 w18 hR => ?_
      obtain ⟨rfl, hE⟩ := hR
      refine ⟨_, rfl, fun a hK => ?_⟩
      have hM := hM.step hE
      iterate 2 (refine s1 hK rfl rfl rfl rfl fun a hK => ?_)
      refine bsplit (x15) (fun hb19 => ?_) (fun hb19 => ?_)
      · have h := bif_t hb19 h
        have hK := hK.re (d := 16) rfl (congrArg Value.bool hb19)
        refine s_val hK rfl rfl rfl (r_fa fa35_3 hK rfl rfl) fun a hK => ?_
        refine s_val hK rfl rfl rfl (r_ldb t13 hM 0 hb3 3 hK rfl rfl rfl rfl rfl) fun a hK => ?_
        obtain ⟨x20, hx21, h⟩ := obind_some h
        refine s_call hK Tryz.call99 rfl rfl rfl rfl rfl (c_impl_in fu _ _ _  hx21) fun e22 w23 hR => ?_
        obtain ⟨rfl, hE⟩ := hR
        refine ⟨_, rfl, fun a hK => ?_⟩
        have hM := hM.step hE
        iterate 2 (refine s1 hK rfl rfl rfl rfl fun a hK => ?_)
        refine wpList_nil (nm_then ?_)
        refine wp_ret ?_
        have h := Option.some.inj h
        subst h
        exact finR1 hK rfl (RV.tmp hK rfl) ⟨rfl, hM.ext⟩
      · have h := bif_f hb19 h
        have hK := hK.re (d := 16) rfl (congrArg Value.bool hb19)
        refine sk hK rfl rfl rfl fun a hK => ?_
        refine sk hK rfl rfl rfl fun a hK => ?_
        refine sk hK rfl rfl rfl fun a hK => ?_
        iterate 2 (refine s1 hK rfl rfl rfl rfl fun a hK => ?_)
        refine wpList_nil (nm_then ?_)
        refine wp_ret ?_
        have h := Option.some.inj h
        subst h
        exact finR1 hK rfl (RV.tmp hK rfl) ⟨rfl, hM.ext⟩
    · have h := bif_f hb14 h
      have hK := hK.re (d := 11) rfl (congrArg Value.bool hb14)
      refine sk hK rfl rfl rfl fun a hK => ?_
      refine sk hK rfl rfl rfl fun a hK => ?_
      refine sk hK rfl rfl rfl fun a hK => ?_
      iterate 2 (refine s1 hK rfl rfl rfl rfl fun a hK => ?_)
      refine sk hK rfl rfl rfl fun a hK => ?_
      refine sk hK rfl rfl rfl fun a hK => ?_
      refine sk hK rfl rfl rfl fun a hK => ?_
      iterate 2 (refine s1 hK rfl rfl rfl rfl fun a hK => ?_)
      refine wpList_nil (nm_then ?_)
      refine wp_ret ?_
      have h := Option.some.inj h
      subst h
      exact finR1 hK rfl (RV.tmp hK rfl) ⟨rfl, hM.ext⟩
  · have h := bif_f hb9 h
    have hK := hK.re (d := 6) rfl (congrArg Value.bool hb9)
    refine sk hK rfl rfl rfl fun a hK => ?_
    refine sk hK rfl rfl rfl fun a hK => ?_
    refine sk hK rfl rfl rfl fun a hK => ?_
    iterate 2 (refine s1 hK rfl rfl rfl rfl fun a hK => ?_)
    refine sk hK rfl rfl rfl fun a hK => ?_
    refine sk hK rfl rfl rfl fun a hK => ?_
    refine sk hK rfl rfl rfl fun a hK => ?_
    iterate 2 (refine s1 hK rfl rfl rfl rfl fun a hK => ?_)
    refine sk hK rfl rfl rfl fun a hK => ?_
    refine sk hK rfl rfl rfl fun a hK => ?_
    refine sk hK rfl rfl rfl fun a hK => ?_
    iterate 2 (refine s1 hK rfl rfl rfl rfl fun a hK => ?_)
    refine wpList_nil (nm_then ?_)
    refine wp_ret ?_
    have h := Option.some.inj h
    subst h
    exact finR1 hK rfl (RV.tmp hK rfl) ⟨rfl, hM.ext⟩

theorem c_slices_IndexFunc_impl_Pair_impl_Pair (fu : Nat) {w0 : World} (sv1 : List Pair) (f5 : Pair → Option Bool) {v2 : Value} {F3 : List Nat} (hp4 : rd w0 F3 [v2] sv1) {v6 : Value} (hp7 : FnOk1 Tryz.prog w0 v6 f5) {r : Int}
    (h : d_slices_IndexFunc_impl_Pair_impl_Pair fu sv1 f5 = some r) :
    Calls Tryz.prog 225 #[v2, v6] w0 fun e w => e = .returned (.int .i64 (r)) ∧ Ext [] w0 w := by
  refine enter (vs := [_, _]) Tryz.func225 rfl Tryz.ntmps225 rfl fun a hK => ?_
  have hM := St.start w0
  obtain ⟨fid8, cap9, rfl, hcl10, hcc11⟩ := hp7
  unfold d_slices_IndexFunc_impl_Pair_impl_Pair at h
  refine wp_seq ?_
  refine wp_region_lit ?_
  refine s1 hK rfl rfl rfl rfl fun a hK => ?_
  refine wpList_nil (nm_then ?_)
  refine wp_seq ?_
  refine wp_seq ?_
  refine wp_region_lit ?_
  refine s1 hK rfl rfl rfl rfl fun a hK => ?_
  refine s_val hK rfl rfl rfl (r_len (α := Pair) hp4 hK Tryz.underlying36 rfl rfl) fun a hK => ?_
  refine s1 hK rfl rfl rfl rfl fun a hK => ?_
  refine wpList_nil (nm_then ?_)
  refine wp_block ?_
  refine c_loop (fun n a w => ∃ (x32 : Int), K 19 [(0, v2), (1, (.func (.func fid8) #[] cap9.toArray)), (7, .int .i64 ((sv1.length : Int))), (8, .int .i64 (x32))] a ∧ St [] w0 w [] ∧ d_slices_IndexFunc_impl_Pair_impl_Pair_L1 fu sv1 f5 n x32 = some r) ?_ ?_ fu _ _ ?_
  · rintro a w ⟨_, _, _, h⟩
    cases (show none = some _ from h)
  · rintro m33 a w31 ⟨x32, hK, hM, h⟩
    rw [d_slices_IndexFunc_impl_Pair_impl_Pair_L1_s] at h
    unfold d_slices_IndexFunc_impl_Pair_impl_Pair_L1_B at h
    refine wp_seq ?_
    refine wp_region_lit ?_
    refine s1 hK rfl rfl rfl rfl fun a hK => ?_
    refine wpList_nil (nm_then ?_)
    refine wp_seq ?_
    refine c_cond (b := decide (x32 < ((sv1.length : Int)))) hK rfl (fun hb34 => ?_) (fun hb34 => ?_)
    · have h := bif_t hb34 h
      refine wp_skip (nm_then ?_)
      refine wp_seq ?_
      refine wp_block ?_
      refine wp_seq ?_
      refine wp_region_lit ?_
      iterate 2 (refine s1 hK rfl rfl rfl rfl fun a hK => ?_)
      refine wpList_nil (nm_then ?_)
      refine wp_seq ?_
      refine wp_region_lit ?_
      iterate 3 (refine s1 hK rfl rfl rfl rfl fun a hK => ?_)
      obtain ⟨x35, hx36, h⟩ := obind_some h
      refine s_val hK rfl rfl rfl (r_ixa hp4 hx36 hK ts36 rfl rfl rfl) fun a hK => ?_
      refine s_val hK rfl rfl rfl (r_lde hp4 (hM.a00 (Enc.rd_lt hp4)) hx36 ta144 hK rfl rfl) fun a hK => ?_
      obtain ⟨x37, hx38, h⟩ := obind_some h
      refine s_callv hK hcl10 rfl rfl rfl rfl rfl rfl (hcc11 _ _ _ _ hM.ext rfl hx38) fun e39 w40 hR => ?_
      obtain ⟨rfl, hE⟩ := hR
      refine ⟨_, rfl, fun a hK => ?_⟩
      have hM := hM.step hE
      refine wpList_nil (nm_then ?_)
      refine c_cond (b := x37) hK rfl (fun hb41 => ?_) (fun hb41 => ?_)
      · have h := bif_t hb41 h
        refine wp_seq ?_
        refine wp_region_lit ?_
        iterate 2 (refine s1 hK rfl rfl rfl rfl fun a hK => ?_)
        refine wpList_nil (nm_then ?_)
        refine wp_ret (rt_block (rt_then (rt_then (rt_block (rt_then ?_)))))
        have h := Option.some.inj h
        subst h
        exact finR1 hK rfl (RV.tmp hK rfl) ⟨rfl, hM.ext⟩
      · have h := bif_f hb41 h
        refine wp_skip (nm_block (nm_then ?_))
        refine wp_region_lit ?_
        iterate 2 (refine s1 hK rfl rfl rfl rfl fun a hK => ?_)
        refine wpList_nil (nm_then ?_)
        exact ⟨w64 (x32 + 1), hK.keep [0, 1, 7, 8] rfl, hM.sel [] rfl (by decide), h⟩
    · have h := bif_f hb34 h
      refine wp_exit (ex_then (ex_then (ex_same (nm_then ?_))))
      refine wp_seq ?_
      refine wp_region_lit ?_
      refine s1 hK rfl rfl rfl rfl fun a hK => ?_
      refine wpList_nil (nm_then ?_)
      refine wp_ret ?_
      have h := Option.some.inj h
      subst h
      exact finR1 hK rfl (RV.tmp hK rfl) ⟨rfl, hM.ext⟩
  · exact ⟨0, hK.keep [0, 1, 7, 8] rfl, hM.sel [] rfl (by decide), h⟩

theorem c_slices_ContainsFunc_impl_Pair_impl_Pair (fu : Nat) {w0 : World} (sv1 : List Pair) (f5 : Pair → Option Bool) {v2 : Value} {F3 : List Nat} (hp4 : rd w0 F3 [v2] sv1) {v6 : Value} (hp7 : FnOk1 Tryz.prog w0 v6 f5) {r : Bool}
    (h : d_slices_ContainsFunc_impl_Pair_impl_Pair fu sv1 f5 = some r) :
    Calls Tryz.prog 200 #[v2, v6] w0 fun e w => e = .returned (.bool (r)) ∧ Ext [] w0 w := by
  refine enter (vs := [_, _]) Tryz.func200 rfl Tryz.ntmps200 rfl fun a hK => ?_
  have hM := St.start w0
  obtain ⟨fid8, cap9, rfl, hcl10, hcc11⟩ := hp7
  unfold d_slices_ContainsFunc_impl_Pair_impl_Pair at h
  refine wp_seq ?_
  refine wp_region_lit ?_
  refine s1 hK rfl rfl rfl rfl fun a hK => ?_
  refine wpList_nil (nm_then ?_)
  refine wp_seq ?_
  refine wp_region_lit ?_
  iterate 2 (refine s1 hK rfl rfl rfl rfl fun a hK => ?_)
  obtain ⟨x14, hx15, h⟩ := obind_some h
  refine s_call hK Tryz.call225 rfl rfl rfl rfl rfl (c_slices_IndexFunc_impl_Pair_impl_Pair fu _ _ (Enc.rd_agr hp4 (hM.a00 (Enc.rd_lt hp4))) ⟨_, _, rfl, hcl10, fun w y12 v13 r hE => hcc11 w y12 v13 r (hM.ext.trans hE (by simp))⟩ hx15) fun e16 w17 hR => ?_
  obtain ⟨rfl, hE⟩ := hR
  refine ⟨_, rfl, fun a hK => ?_⟩
  have hM := hM.step hE
  iterate 2 (refine s1 hK rfl rfl rfl rfl fun a hK => ?_)
  refine wpList_nil (nm_then ?_)
  refine wp_ret ?_
  have h := Option.some.inj h
  subst h
  exact finR1 hK rfl (RV.tmp hK rfl) ⟨rfl, hM.ext⟩

theorem c_impl_BoundsOk_1 (fu : Nat) {w0 : World} (p1 : Pair)  {r : Bool}
    (h : d_impl_BoundsOk_1 fu p1 = some r) :
    Calls Tryz.prog 201 #[.agg (Flat.e (p1)).toArray] w0 fun e w => e = .returned (.bool (r)) ∧ Ext [] w0 w := by
  refine enter (vs := [_]) Tryz.func201 rfl Tryz.ntmps201 rfl fun a hK => ?_
  have hM := St.start w0
  unfold d_impl_BoundsOk_1 at h
  refine wp_seq ?_
  refine wp_region_lit ?_
  refine s_box (cs := [.int .i64 (p1.fA), .int .i64 (p1.fB)]) hM hK rfl rfl rfl rfl rfl rfl fun b2 w4 a hK hM hE hb3 => ?_
  refine s1 hK rfl rfl rfl rfl fun a hK => ?_
  refine wpList_nil (nm_then ?_)
  refine wp_seq ?_
  refine wp_region_lit ?_
  refine s_val hK rfl rfl rfl (r_fa fa144_0 hK rfl rfl) fun a hK => ?_
  refine s_val hK rfl rfl rfl (r_ldb t13 hM 0 hb3 0 hK rfl rfl rfl rfl rfl) fun a hK => ?_
  obtain ⟨x5, hx6, h⟩ := obind_some h
  refine s_call hK Tryz.call99 rfl rfl rfl rfl rfl (c_impl_in fu _ _ _  hx6) fun e7 w8 hR => ?_
  obtain ⟨rfl, hE⟩ := hR
  refine ⟨_, rfl, fun a hK => ?_⟩
  have hM := hM.step hE
  iterate 2 (refine s1 hK rfl rfl rfl rfl fun a hK => ?_)
  refine bsplit (!x5) (fun hb9 => ?_) (fun hb9 => ?_)
  · have h := bif_t hb9 h
    have hK := hK.re (d := 7) rfl (congrArg Value.bool hb9)
    refine sk hK rfl rfl rfl fun a hK => ?_
    refine sk hK rfl rfl rfl fun a hK => ?_
    refine sk hK rfl rfl rfl fun a hK => ?_
    refine sk hK rfl rfl rfl fun a hK => ?_
    iterate 2 (refine s1 hK rfl rfl rfl rfl fun a hK => ?_)
    refine wpList_nil (nm_then ?_)
    refine wp_ret ?_
    have h := Option.some.inj h
    subst h
    exact finR1 hK rfl (RV.tmp hK rfl) ⟨rfl, hM.ext⟩
  · have h := bif_f hb9 h
    have hK := hK.re (d := 7) rfl (congrArg Value.bool hb9)
    refine s_val hK rfl rfl rfl (r_fa fa144_1 hK rfl rfl) fun a hK => ?_
    refine s_val hK rfl rfl rfl (r_ldb t13 hM 0 hb3 1 hK rfl rfl rfl rfl rfl) fun a hK => ?_
    obtain ⟨x10, hx11, h⟩ := obind_some h
    refine s_call hK Tryz.call99 rfl rfl rfl rfl rfl (c_impl_in fu _ _ _  hx11) fun e12 w13 hR => ?_
    obtain ⟨rfl, hE⟩ := hR
    refine ⟨_, rfl, fun a hK => ?_⟩
    have hM := hM.step hE
    iterate 3 (refine s1 hK rfl rfl rfl rfl fun a hK => ?_)
    refine wpList_nil (nm_then ?_)
    refine wp_ret ?_
    have h := Option.some.inj h
    subst h
    exact finR1 hK rfl (RV.tmp hK rfl) ⟨rfl, hM.ext⟩

theorem c_slices_ContainsFunc_impl_Type_impl_Type (fu : Nat) {w0 : World} (sv1 : List Typ) (f5 : Typ → Option Bool) {v2 : Value} {F3 : List Nat} (hp4 : rd w0 F3 [v2] sv1) {v6 : Value} (hp7 : FnOk1 Tryz.prog w0 v6 f5) {r : Bool}
    (h : d_slices_ContainsFunc_impl_Type_impl_Type fu sv1 f5 = some r) :
    Calls Tryz.prog 184 #[v2, v6] w0 fun e w => e = .returned (.bool (r)) ∧ Ext [] w0 w := by
  refine enter (vs := [_, _]) Tryz.func184 rfl Tryz.ntmps184 rfl fun a hK => ?_
  have hM := St.start w0
  obtain ⟨fid8, cap9, rfl, hcl10, hcc11⟩ := hp7
  unfold d_slices_ContainsFunc_impl_Type_impl_Type at h
  refine wp_seq ?_
  refine wp_region_lit ?_
  refine s1 hK rfl rfl rfl rfl fun a hK => ?_
  refine wpList_nil (nm_then ?_)
  refine wp_seq ?_
  refine wp_region_lit ?_
  iterate 2 (refine s1 hK rfl rfl rfl rfl fun a hK => ?_)
  obtain ⟨x14, hx15, h⟩ := obind_some h
  refine s_call hK Tryz.call140 rfl rfl rfl rfl rfl (c_slices_IndexFunc_impl_Type_impl_Type fu _ _ (Enc.rd_agr hp4 (hM.a00 (Enc.rd_lt hp4))) ⟨_, _, rfl, hcl10, fun w y12 v13 r hE => hcc11 w y12 v13 r (hM.ext.trans hE (by simp))⟩ hx15) fun e16 w17 hR => ?_
  obtain ⟨rfl, hE⟩ := hR
  refine ⟨_, rfl, fun a hK => ?_⟩
  have hM := hM.step hE
  iterate 2 (refine s1 hK rfl rfl rfl rfl fun a hK => ?_)
  refine wpList_nil (nm_then ?_)
  refine wp_ret ?_
  have h := Option.some.inj h
  subst h
  exact finR1 hK rfl (RV.tmp hK rfl) ⟨rfl, hM.ext⟩

theorem c_impl_TypeOk (fu : Nat) {w0 : World} (x1 : Typ)  {r : Bool}
    (h : d_impl_TypeOk fu x1 = some r) :
    Calls Tryz.prog 203 #[.agg (Flat.e (x1)).toArray] w0 fun e w => e = .returned (.bool (r)) ∧ Ext [] w0 w := by
  refine enter (vs := [_]) Tryz.func203 rfl Tryz.ntmps203 rfl fun a hK => ?_
  have hM := St.start w0
  unfold d_impl_TypeOk at h
  refine wp_seq ?_
  refine wp_region_lit ?_
  refine s_box (cs := [.int .i64 (x1.fId), .int .i64 (x1.fW), .int .i64 (x1.fH), .int .i64 (x1.fD), .int .i64 (x1.fTare), .int .i64 (x1.fGram), .int .i64 (x1.fCost)]) hM hK rfl rfl rfl rfl rfl rfl fun b2 w4 a hK hM hE hb3 => ?_
  refine s1 hK rfl rfl rfl rfl fun a hK => ?_
  refine wpList_nil (nm_then ?_)
  refine wp_seq ?_
  refine wp_region_lit ?_
  refine s_val hK rfl rfl rfl (r_fa fa92_0 hK rfl rfl) fun a hK => ?_
  refine s_val hK rfl rfl rfl (r_ldb t13 hM 0 hb3 0 hK rfl rfl rfl rfl rfl) fun a hK => ?_
  obtain ⟨x5, hx6, h⟩ := obind_some h
  refine s_call hK Tryz.call99 rfl rfl rfl rfl rfl (c_impl_in fu _ _ _  hx6) fun e7 w8 hR => ?_
  obtain ⟨rfl, hE⟩ := hR
  refine ⟨_, rfl, fun a hK => ?_⟩
  have hM := hM.step hE
  refine s1 hK rfl rfl rfl rfl fun a hK => ?_
  refine bsplit (x5) (fun hb9 => ?_) (fun hb9 => ?_)
  · have h := bif_t hb9 h
    have hK := hK.re (d := 6) rfl (congrArg Value.bool hb9)
    refine s_val hK rfl rfl rfl (r_fa fa92_1 hK rfl rfl) fun a hK => ?_
    refine s_val hK rfl rfl rfl (r_ldb t13 hM 0 hb3 1 hK rfl rfl rfl rfl rfl) fun a hK => ?_
    obtain ⟨x10, hx11, h⟩ := obind_some h
    refine s_call hK Tryz.call224 rfl rfl rfl rfl rfl (c_impl_isSide fu _  hx11) fun e12 w13 hR => ?_
    obtain ⟨rfl, hE⟩ := hR
    refine ⟨_, rfl, fun a hK => ?_⟩
    have hM := hM.step hE
    iterate 2 (refine s1 hK rfl rfl rfl rfl fun a hK => ?_)
    refine bsplit (x10) (fun hb14 => ?_) (fun hb14 => ?_)
    · have h := bif_t hb14 h
      have hK := hK.re (d := 11) rfl (congrArg Value.bool hb14)
      refine s_val hK rfl rfl rfl (r_fa fa92_2 hK rfl rfl) fun a hK => ?_
      refine s_val hK rfl rfl rfl (r_ldb t13 hM 0 hb3 2 hK rfl rfl rfl rfl rfl) fun a hK => ?_
      obtain ⟨x15, hx16, h⟩ := obind_some h
      refine s_call hK Tryz.call224 rfl rfl rfl rfl rfl (c_impl_isSide fu _  hx16) fun e17 w18 hR => ?_
      obtain ⟨rfl, hE⟩ := hR
      refine ⟨_, rfl, fun a hK => ?_⟩
      have hM := hM.step hE
      iterate 2 (refine s1 hK rfl rfl rfl rfl fun a hK => ?_)
      refine bsplit (x15) (fun hb19 => ?_) (fun hb19 => ?_)
      · have h := bif_t hb19 h
        have hK := hK.re (d := 16) rfl (congrArg Value.bool hb19)
        refine s_val hK rfl rfl rfl (r_fa fa92_3 hK rfl rfl) fun a hK => ?_
        refine s_val hK rfl rfl rfl (r_ldb t13 hM 0 hb3 3 hK rfl rfl rfl rfl rfl) fun a hK => ?_
        obtain ⟨x20, hx21, h⟩ := obind_some h
        refine s_call hK Tryz.call224 rfl rfl rfl rfl rfl (c_impl_isSide fu _  hx21) fun e22 w23 hR => ?_
        obtain ⟨rfl, hE⟩ := hR
        refine ⟨_, rfl, fun a hK => ?_⟩
        have hM := hM.step hE
        iterate 2 (refine s1 hK rfl rfl rfl rfl fun a hK => ?_)
        refine bsplit (x20) (fun hb24 => ?_) (fun hb24 => ?_)
        · have h := bif_t hb24 h
          have hK := hK.re (d := 21) rfl (congrArg Value.bool hb24)
          refine s_val hK rfl rfl rfl (r_fa fa92_4 hK rfl rfl) fun a hK => ?_
          refine s_val hK rfl rfl rfl (r_ldb t13 hM 0 hb3 4 hK rfl rfl rfl rfl rfl) fun a hK => ?_
          obtain ⟨x25, hx26, h⟩ := obind_some h
          refine s_call hK Tryz.call99 rfl rfl rfl rfl rfl (c_impl_in fu _ _ _  hx26) fun e27 w28 hR => ?_
          obtain ⟨rfl, hE⟩ := hR
          refine ⟨_, rfl, fun a hK => ?_⟩
          have hM := hM.step hE
          iterate 2 (refine s1 hK rfl rfl rfl rfl fun a hK => ?_)
          refine bsplit (x25) (fun hb29 => ?_) (fun hb29 => ?_)
          · have h := bif_t hb29 h
            have hK := hK.re (d := 26) rfl (congrArg Value.bool hb29)
            refine s_val hK rfl rfl rfl (r_fa fa92_5 hK rfl rfl) fun a hK => ?_
            refine s_val hK rfl rfl rfl (r_ldb t13 hM 0 hb3 5 hK rfl rfl rfl rfl rfl) fun a hK => ?_
            obtain ⟨x30, hx31, h⟩ := obind_some h
            refine s_call hK Tryz.call99 rfl rfl rfl rfl rfl (c_impl_in fu _ _ _  hx31) fun e32 w33 hR => ?_
            obtain ⟨rfl, hE⟩ := hR
            refine ⟨_, rfl, fun a hK => ?_⟩
            have hM := hM.step hE
            iterate 2 (refine s1 hK rfl rfl rfl rfl fun a hK => ?_)
            refine bsplit (x30) (fun hb34 => ?_) (fun hb34 => ?_)
            · have h := bif_t hb34 h
              have hK := hK.re (d := 31) rfl (congrArg Value.bool hb34)
              refine s_val hK rfl rfl rfl (r_fa fa92_6 hK rfl rfl) fun a hK => ?_
              refine s_val hK rfl rfl rfl (r_ldb t13 hM 0 hb3 6 hK rfl rfl rfl rfl rfl) fun a hK => ?_
              obtain ⟨x35, hx36, h⟩ := obind_some h
              refine s_call hK Tryz.call99 rfl rfl rfl rfl rfl (c_impl_in fu _ _ _  hx36) fun e37 w38 hR => ?_
              obtain ⟨rfl, hE⟩ := hR
              refine ⟨_, rfl, fun a hK => ?_⟩
              have hM := hM.step hE
              iterate 2 (refine s1 hK rfl rfl rfl rfl fun a hK => ?_)
              have hK := hK.keep [2] rfl
              refine wpList_nil (nm_then ?_)
              refine wp_ret ?_
              have h := Option.some.inj h
              subst h
              exact finR1 hK rfl (RV.tmp hK rfl) ⟨rfl, hM.ext⟩
            · have h := bif_f hb34 h
              have hK := hK.re (d := 31) rfl (congrArg Value.bool hb34)
              refine sk hK rfl rfl rfl fun a hK => ?_
              refine sk hK rfl rfl rfl fun a hK => ?_
              refine sk hK rfl rfl rfl fun a hK => ?_
              iterate 2 (refine s1 hK rfl rfl rfl rfl fun a hK => ?_)
              have hK := hK.keep [2] rfl
              refine wpList_nil (nm_then ?_)
              refine wp_ret ?_
              have h := Option.some.inj h
              subst h
              exact finR1 hK rfl (RV.tmp hK rfl) ⟨rfl, hM.ext⟩
          · have h := bif_f hb29 h
            have hK := hK.re (d := 26) rfl (congrArg Value.bool hb29)
            refine sk hK rfl rfl rfl fun a hK => ?_
            refine sk hK rfl rfl rfl fun a hK => ?_
            refine sk hK rfl rfl rfl fun a hK => ?_
            iterate 2 (refine s1 hK rfl rfl rfl rfl fun a hK => ?_)
            refine sk hK rfl rfl rfl fun a hK => ?_
            refine sk hK rfl rfl rfl fun a hK => ?_
            refine sk hK rfl rfl rfl fun a hK => ?_
            iterate 2 (refine s1 hK rfl rfl rfl rfl fun a hK => ?_)
            have hK := hK.keep [2] rfl
            refine wpList_nil (nm_then ?_)
            refine wp_ret ?_
            have h := Option.some.inj h
            subst h
            exact finR1 hK rfl (RV.tmp hK rfl) ⟨rfl, hM.ext⟩
        · have h := bif_f hb24 h
          have hK := hK.re (d := 21) rfl (congrArg Value.bool hb24)
          refine sk hK rfl rfl rfl fun a hK => ?_
          refine sk hK rfl rfl rfl fun a hK => ?_
          refine sk hK rfl rfl rfl fun a hK => ?_
          iterate 2 (refine s1 hK rfl rfl rfl rfl fun a hK => ?_)
          refine sk hK rfl rfl rfl fun a hK => ?_
          refine sk hK rfl rfl rfl fun a hK => ?_
          refine sk hK rfl rfl rfl fun a hK => ?_
          iterate 2 (refine s1 hK rfl rfl rfl rfl fun a hK => ?_)
          refine sk hK rfl rfl rfl fun a hK => ?_
          refine sk hK rfl rfl rfl fun a hK => ?_
          refine sk hK rfl rfl rfl fun a hK => ?_
          iterate 2 (refine s1 hK rfl rfl rfl rfl fun a hK => ?_)
          have hK := hK.keep [2] rfl
          refine wpList_nil (nm_then ?_)
          refine wp_ret ?_
          have h := Option.some.inj h
          subst h
          exact finR1 hK rfl (RV.tmp hK rfl) ⟨rfl, hM.ext⟩
      · have h := bif_f hb19 h
        have hK := hK.re (d := 16) rfl (congrArg Value.bool hb19)
        refine sk hK rfl rfl rfl fun a hK => ?_
        refine sk hK rfl rfl rfl fun a hK => ?_
        refine sk hK rfl rfl rfl fun a hK => ?_
        iterate 2 (refine s1 hK rfl rfl rfl rfl fun a hK => ?_)
        refine sk hK rfl rfl rfl fun a hK => ?_
        refine sk hK rfl rfl rfl fun a hK => ?_
        refine sk hK rfl rfl rfl fun a hK => ?_
        iterate 2 (refine s1 hK rfl rfl rfl rfl fun a hK => ?_)
        refine sk hK rfl rfl rfl fun a hK => ?_
        refine sk hK rfl rfl rfl fun a hK => ?_
        refine sk hK rfl rfl rfl fun a hK => ?_
        iterate 2 (refine s1 hK rfl rfl rfl rfl fun a hK => ?_)
        refine sk hK rfl rfl rfl fun a hK => ?_
        refine sk hK rfl rfl rfl fun a hK => ?_
        refine sk hK rfl rfl rfl fun a hK => ?_
        iterate 2 (refine s1 hK rfl rfl rfl rfl fun a hK => ?_)
        have hK := hK.keep [2] rfl
        refine wpList_nil (nm_then ?_)
        refine wp_ret ?_
        have h := Option.some.inj h
        subst h
        exact finR1 hK rfl (RV.tmp hK rfl) ⟨rfl, hM.ext⟩
    · have h := bif_f hb14 h
      have hK := hK.re (d := 11) rfl (congrArg Value.bool hb14)
      refine sk hK rfl rfl rfl fun a hK => ?_
      refine sk hK rfl rfl rfl fun a hK => ?_
      refine sk hK rfl rfl rfl fun a hK => ?_
      iterate 2 (refine s1 hK rfl rfl rfl rfl fun a hK => ?_)
      refine sk hK rfl rfl rfl fun a hK => ?_
      refine sk hK rfl rfl rfl fun a hK => ?_
      refine sk hK rfl rfl rfl fun a hK => ?_
      iterate 2 (refine s1 hK rfl rfl rfl rfl fun a hK => ?_)
      refine sk hK rfl rfl rfl fun a hK => ?_
      refine sk hK rfl rfl rfl fun a hK => ?_
      refine sk hK rfl rfl rfl fun a hK => ?_
      iterate 2 (refine s1 hK rfl rfl rfl rfl fun a hK => ?_)
      refine sk hK rfl rfl rfl fun a hK => ?_
      refine sk hK rfl rfl rfl fun a hK => ?_
      refine sk hK rfl rfl rfl fun a hK => ?_
      iterate 2 (refine s1 hK rfl rfl rfl rfl fun a hK => ?_)
      refine sk hK rfl rfl rfl fun a hK => ?_
      refine sk hK rfl rfl rfl fun a hK => ?_
      refine sk hK rfl rfl rfl fun a hK => ?_
      iterate 2 (refine s1 hK rfl rfl rfl rfl fun a hK => ?_)
      have hK := hK.keep [2] rfl
      refine wpList_nil (nm_then ?_)
      refine wp_ret ?_
      have h := Option.some.inj h
      subst h
      exact finR1 hK rfl (RV.tmp hK rfl) ⟨rfl, hM.ext⟩
  · have h := bif_f hb9 h
    have hK := hK.re (d := 6) rfl (congrArg Value.bool hb9)
    refine sk hK rfl rfl rfl fun a hK => ?_
    refine sk hK rfl rfl rfl fun a hK => ?_
    refine sk hK rfl rfl rfl fun a hK => ?_
    iterate 2 (refine s1 hK rfl rfl rfl rfl fun a hK => ?_)
    refine sk hK rfl rfl rfl fun a hK => ?_
    refine sk hK rfl rfl rfl fun a hK => ?_
    refine sk hK rfl rfl rfl fun a hK => ?_
    iterate 2 (refine s1 hK rfl rfl rfl rfl fun a hK => ?_)
    refine sk hK rfl rfl rfl fun a hK => ?_
    refine sk hK rfl rfl rfl fun a hK => ?_
    refine sk hK rfl rfl rfl fun a hK => ?_
    iterate 2 (refine s1 hK rfl rfl rfl rfl fun a hK => ?_)
    refine sk hK rfl rfl rfl fun a hK => ?_
    refine sk hK rfl rfl rfl fun a hK => ?_
    refine sk hK rfl rfl rfl fun a hK => ?_
    iterate 2 (refine s1 hK rfl rfl rfl rfl fun a hK => ?_)
    refine sk hK rfl rfl rfl fun a hK => ?_
    refine sk hK rfl rfl rfl fun a hK => ?_
    refine sk hK rfl rfl rfl fun a hK => ?_
    iterate 2 (refine s1 hK rfl rfl rfl rfl fun a hK => ?_)
    refine sk hK rfl rfl rfl fun a hK => ?_
    refine sk hK rfl rfl rfl fun a hK => ?_
    refine sk hK rfl rfl rfl fun a hK => ?_
    iterate 2 (refine s1 hK rfl rfl rfl rfl fun a hK => ?_)
    have hK := hK.keep [2] rfl
    refine wpList_nil (nm_then ?_)
    refine wp_ret ?_
    have h := Option.some.inj h
    subst h
    exact finR1 hK rfl (RV.tmp hK rfl) ⟨rfl, hM.ext⟩

theorem c_impl_BoundsOk_2 (fu : Nat) {w0 : World} (t1 : Typ)  {r : Bool}
    (h : d_impl_BoundsOk_2 fu t1 = some r) :
    Calls Tryz.prog 202 #[.agg (Flat.e (t1)).toArray] w0 fun e w => e = .returned (.bool (r)) ∧ Ext [] w0 w := by
  refine enter (vs := [_]) Tryz.func202 rfl Tryz.ntmps202 rfl fun a hK => ?_
  have hM := St.start w0
  unfold d_impl_BoundsOk_2 at h
  refine wp_seq ?_
  refine wp_region_lit ?_
  refine s_box (cs := [.int .i64 (t1.fId), .int .i64 (t1.fW), .int .i64 (t1.fH), .int .i64 (t1.fD), .int .i64 (t1.fTare), .int .i64 (t1.fGram), .int .i64 (t1.fCost)]) hM hK rfl rfl rfl rfl rfl rfl fun b2 w4 a hK hM hE hb3 => ?_
  refine s1 hK rfl rfl rfl rfl fun a hK => ?_
  refine wpList_nil (nm_then ?_)
  refine wp_seq ?_
  refine wp_region_lit ?_
  refine s_val hK rfl rfl rfl (r_ldB ta92 hM 0 hb3 0 hK rfl rfl rfl rfl rfl rfl) fun a hK => ?_
  obtain ⟨x5, hx6, h⟩ := obind_some h
  refine s_call hK Tryz.call203 rfl rfl rfl rfl rfl (c_impl_TypeOk fu (t1 : Typ)  hx6) fun e7 w8 hR => ?_
  obtain ⟨rfl, hE⟩ := hR
  refine ⟨_, rfl, fun a hK => ?_⟩
  have hM := hM.step hE
  iterate 2 (refine s1 hK rfl rfl rfl rfl fun a hK => ?_)
  refine wpList_nil (nm_then ?_)
  refine wp_ret ?_
  have h := Option.some.inj h
  subst h
  exact finR1 hK rfl (RV.tmp hK rfl) ⟨rfl, hM.ext⟩

theorem c_impl_ItemOk (fu : Nat) {w0 : World} (x1 : Item)  {r : Bool}
    (h : d_impl_ItemOk fu x1 = some r) :
    Calls Tryz.prog 204 #[.agg (Flat.e (x1)).toArray] w0 fun e w => e = .returned (.bool (r)) ∧ Ext [] w0 w := by
  refine enter (vs := [_]) Tryz.func204 rfl Tryz.ntmps204 rfl fun a hK => ?_
  have hM := St.start w0
  unfold d_impl_ItemOk at h
  refine wp_seq ?_
  refine wp_region_lit ?_
  refine s_box (cs := [.int .i64 (x1.fId), .int .i64 (x1.fW), .int .i64 (x1.fH), .int .i64 (x1.fD), .int .i64 (x1.fGram), .int .i64 (x1.fClass), .int .i64 (x1.fCount)]) hM hK rfl rfl rfl rfl rfl rfl fun b2 w4 a hK hM hE hb3 => ?_
  refine s1 hK rfl rfl rfl rfl fun a hK => ?_
  refine wpList_nil (nm_then ?_)
  refine wp_seq ?_
  refine wp_region_lit ?_
  refine s_val hK rfl rfl rfl (r_fa fa120_0 hK rfl rfl) fun a hK => ?_
  refine s_val hK rfl rfl rfl (r_ldb t13 hM 0 hb3 0 hK rfl rfl rfl rfl rfl) fun a hK => ?_
  obtain ⟨x5, hx6, h⟩ := obind_some h
  refine s_call hK Tryz.call99 rfl rfl rfl rfl rfl (c_impl_in fu _ _ _  hx6) fun e7 w8 hR => ?_
  obtain ⟨rfl, hE⟩ := hR
  refine ⟨_, rfl, fun a hK => ?_⟩
  have hM := hM.step hE
  refine s1 hK rfl rfl rfl rfl fun a hK => ?_
  refine bsplit (x5) (fun hb9 => ?_) (fun hb9 => ?_)
  · have h := bif_t hb9 h
    have hK := hK.re (d := 6) rfl (congrArg Value.bool hb9)
    refine s_val hK rfl rfl rfl (r_fa fa120_1 hK rfl rfl) fun a hK => ?_
    refine s_val hK rfl rfl rfl (r_ldb t13 hM 0 hb3 1 hK rfl rfl rfl rfl rfl) fun a hK => ?_
    obtain ⟨x10, hx11, h⟩ := obind_some h
    refine s_call hK Tryz.call224 rfl rfl rfl rfl rfl (c_impl_isSide fu _  hx11) fun e12 w13 hR => ?_
    obtain ⟨rfl, hE⟩ := hR
    refine ⟨_, rfl, fun a hK => ?_⟩
    have hM := hM.step hE
    iterate 2 (refine s1 hK rfl rfl rfl rfl fun a hK => ?_)
    refine bsplit (x10) (fun hb14 => ?_) (fun hb14 => ?_)
    · have h := bif_t hb14 h
      have hK := hK.re (d := 11) rfl (congrArg Value.bool hb14)
      refine s_val hK rfl rfl rfl (r_fa fa120_2 hK rfl rfl) fun a hK => ?_
      refine s_val hK rfl rfl rfl (r_ldb t13 hM 0 hb3 2 hK rfl rfl rfl rfl rfl) fun a hK => ?_
      obtain ⟨x15, hx16, h⟩ := obind_some h
      refine s_call hK Tryz.call224 rfl rfl rfl rfl rfl (c_impl_isSide fu _  hx16) fun e17 w18 hR => ?_
      obtain ⟨rfl, hE⟩ := hR
      refine ⟨_, rfl, fun a hK => ?_⟩
      have hM := hM.step hE
      iterate 2 (refine s1 hK rfl rfl rfl rfl fun a hK => ?_)
      refine bsplit (x15) (fun hb19 => ?_) (fun hb19 => ?_)
      · have h := bif_t hb19 h
        have hK := hK.re (d := 16) rfl (congrArg Value.bool hb19)
        refine s_val hK rfl rfl rfl (r_fa fa120_3 hK rfl rfl) fun a hK => ?_
        refine s_val hK rfl rfl rfl (r_ldb t13 hM 0 hb3 3 hK rfl rfl rfl rfl rfl) fun a hK => ?_
        obtain ⟨x20, hx21, h⟩ := obind_some h
        refine s_call hK Tryz.call224 rfl rfl rfl rfl rfl (c_impl_isSide fu _  hx21) fun e22 w23 hR => ?_
        obtain ⟨rfl, hE⟩ := hR
        refine ⟨_, rfl, fun a hK => ?_⟩
        have hM := hM.step hE
        iterate 2 (refine s1 hK rfl rfl rfl rfl fun a hK => ?_)
        refine bsplit (x20) (fun hb24 => ?_) (fun hb24 => ?_)
        · have h := bif_t hb24 h
          have hK := hK.re (d := 21) rfl (congrArg Value.bool hb24)
          refine s_val hK rfl rfl rfl (r_fa fa120_4 hK rfl rfl) fun a hK => ?_
          refine s_val hK rfl rfl rfl (r_ldb t13 hM 0 hb3 4 hK rfl rfl rfl rfl rfl) fun a hK => ?_
          obtain ⟨x25, hx26, h⟩ := obind_some h
          refine s_call hK Tryz.call99 rfl rfl rfl rfl rfl (c_impl_in fu _ _ _  hx26) fun e27 w28 hR => ?_
          obtain ⟨rfl, hE⟩ := hR
          refine ⟨_, rfl, fun a hK => ?_⟩
          have hM := hM.step hE
          iterate 2 (refine s1 hK rfl rfl rfl rfl fun a hK => ?_)
          refine bsplit (x25) (fun hb29 => ?_) (fun hb29 => ?_)
          · have h := bif_t hb29 h
            have hK := hK.re (d := 26) rfl (congrArg Value.bool hb29)
            refine s_val hK rfl rfl rfl (r_fa fa120_5 hK rfl rfl) fun a hK => ?_
            refine s_val hK rfl rfl rfl (r_ldb t13 hM 0 hb3 5 hK rfl rfl rfl rfl rfl) fun a hK => ?_
            obtain ⟨x30, hx31, h⟩ := obind_some h
            refine s_call hK Tryz.call99 rfl rfl rfl rfl rfl (c_impl_in fu _ _ _  hx31) fun e32 w33 hR => ?_
            obtain ⟨rfl, hE⟩ := hR
            refine ⟨_, rfl, fun a hK => ?_⟩
            have hM := hM.step hE
            iterate 2 (refine s1 hK rfl rfl rfl rfl fun a hK => ?_)
            refine bsplit (x30) (fun hb34 => ?_) (fun hb34 => ?_)
            · have h := bif_t hb34 h
              have hK := hK.re (d := 31) rfl (congrArg Value.bool hb34)
              refine s_val hK rfl rfl rfl (r_fa fa120_6 hK rfl rfl) fun a hK => ?_
              refine s_val hK rfl rfl rfl (r_ldb t13 hM 0 hb3 6 hK rfl rfl rfl rfl rfl) fun a hK => ?_
              obtain ⟨x35, hx36, h⟩ := obind_some h
              refine s_call hK Tryz.call99 rfl rfl rfl rfl rfl (c_impl_in fu _ _ _  hx36) fun e37 w38 hR => ?_
              obtain ⟨rfl, hE⟩ := hR
              refine ⟨_, rfl, fun a hK => ?_⟩
              have hM := hM.step hE
              iterate 2 (refine s1 hK rfl rfl rfl rfl fun a hK => ?_)
              have hK := hK.keep [2] rfl
              refine wpList_nil (nm_then ?_)
              refine wp_ret ?_
              have h := Option.some.inj h
              subst h
              exact finR1 hK rfl (RV.tmp hK rfl) ⟨rfl, hM.ext⟩
            · have h := bif_f hb34 h
              have hK := hK.re (d := 31) rfl (congrArg Value.bool hb34)
              refine sk hK rfl rfl rfl fun a hK => ?_
              refine sk hK rfl rfl rfl fun a hK => ?_
              refine sk hK rfl rfl rfl fun a hK => ?_
              iterate 2 (refine s1 hK rfl rfl rfl rfl fun a hK => ?_)
              have hK := hK.keep [2] rfl
              refine wpList_nil (nm_then ?_)
              refine wp_ret ?_
              have h := Option.some.inj h
              subst h
              exact finR1 hK rfl (RV.tmp hK rfl) ⟨rfl, hM.ext⟩
          · have h := bif_f hb29 h
            have hK := hK.re (d := 26) rfl (congrArg Value.bool hb29)
            refine sk hK rfl rfl rfl fun a hK => ?_
            refine sk hK rfl rfl rfl fun a hK => ?_
            refine sk hK rfl rfl rfl fun a hK => ?_
            iterate 2 (refine s1 hK rfl rfl rfl rfl fun a hK => ?_)
            refine sk hK rfl rfl rfl fun a hK => ?_
            refine sk hK rfl rfl rfl fun a hK => ?_
            refine sk hK rfl rfl rfl fun a hK => ?_
            iterate 2 (refine s1 hK rfl rfl rfl rfl fun a hK => ?_)
            have hK := hK.keep [2] rfl
            refine wpList_nil (nm_then ?_)
            refine wp_ret ?_
            have h := Option.some.inj h
            subst h
            exact finR1 hK rfl (RV.tmp hK rfl) ⟨rfl, hM.ext⟩
        · have h := bif_f hb24 h
          have hK := hK.re (d := 21) rfl (congrArg Value.bool hb24)
          refine sk hK rfl rfl rfl fun a hK => ?_
          refine sk hK rfl rfl rfl fun a hK => ?_
          refine sk hK rfl rfl rfl fun a hK => ?_
          iterate 2 (refine s1 hK rfl rfl rfl rfl fun a hK => ?_)
          refine sk hK rfl rfl rfl fun a hK => ?_
          refine sk hK rfl rfl rfl fun a hK => ?_
          refine sk hK rfl rfl rfl fun a hK => ?_
          iterate 2 (refine s1 hK rfl rfl rfl rfl fun a hK => ?_)
          refine sk hK rfl rfl rfl fun a hK => ?_
          refine sk hK rfl rfl rfl fun a hK => ?_
          refine sk hK rfl rfl rfl fun a hK => ?_
          iterate 2 (refine s1 hK rfl rfl rfl rfl fun a hK => ?_)
          have hK := hK.keep [2] rfl
          refine wpList_nil (nm_then ?_)
          refine wp_ret ?_
          have h := Option.some.inj h
          subst h
          exact finR1 hK rfl (RV.tmp hK rfl) ⟨rfl, hM.ext⟩
      · have h := bif_f hb19 h
        have hK := hK.re (d := 16) rfl (congrArg Value.bool hb19)
        refine sk hK rfl rfl rfl fun a hK => ?_
        refine sk hK rfl rfl rfl fun a hK => ?_
        refine sk hK rfl rfl rfl fun a hK => ?_
        iterate 2 (refine s1 hK rfl rfl rfl rfl fun a hK => ?_)
        refine sk hK rfl rfl rfl fun a hK => ?_
        refine sk hK rfl rfl rfl fun a hK => ?_
        refine sk hK rfl rfl rfl fun a hK => ?_
        iterate 2 (refine s1 hK rfl rfl rfl rfl fun a hK => ?_)
        refine sk hK rfl rfl rfl fun a hK => ?_
        refine sk hK rfl rfl rfl fun a hK => ?_
        refine sk hK rfl rfl rfl fun a hK => ?_
        iterate 2 (refine s1 hK rfl rfl rfl rfl fun a hK => ?_)
        refine sk hK rfl rfl rfl fun a hK => ?_
        refine sk hK rfl rfl rfl fun a hK => ?_
        refine sk hK rfl rfl rfl fun a hK => ?_
        iterate 2 (refine s1 hK rfl rfl rfl rfl fun a hK => ?_)
        have hK := hK.keep [2] rfl
        refine wpList_nil (nm_then ?_)
        refine wp_ret ?_
        have h := Option.some.inj h
        subst h
        exact finR1 hK rfl (RV.tmp hK rfl) ⟨rfl, hM.ext⟩
    · have h := bif_f hb14 h
      have hK := hK.re (d := 11) rfl (congrArg Value.bool hb14)
      refine sk hK rfl rfl rfl fun a hK => ?_
      refine sk hK rfl rfl rfl fun a hK => ?_
      refine sk hK rfl rfl rfl fun a hK => ?_
      iterate 2 (refine s1 hK rfl rfl rfl rfl fun a hK => ?_)
      refine sk hK rfl rfl rfl fun a hK => ?_
      refine sk hK rfl rfl rfl fun a hK => ?_
      refine sk hK rfl rfl rfl fun a hK => ?_
      iterate 2 (refine s1 hK rfl rfl rfl rfl fun a hK => ?_)
      refine sk hK rfl rfl rfl fun a hK => ?_
      refine sk hK rfl rfl rfl fun a hK => ?_
      refine sk hK rfl rfl rfl fun a hK => ?_
      iterate 2 (refine s1 hK rfl rfl rfl rfl fun a hK => ?_)
      refine sk hK rfl rfl rfl fun a hK => ?_
      refine sk hK rfl rfl rfl fun a hK => ?_
      refine sk hK rfl rfl rfl fun a hK => ?_
      iterate 2 (refine s1 hK rfl rfl rfl rfl fun a hK => ?_)
      refine sk hK rfl rfl rfl fun a hK => ?_
      refine sk hK rfl rfl rfl fun a hK => ?_
      refine sk hK rfl rfl rfl fun a hK => ?_
      iterate 2 (refine s1 hK rfl rfl rfl rfl fun a hK => ?_)
      have hK := hK.keep [2] rfl
      refine wpList_nil (nm_then ?_)
      refine wp_ret ?_
      have h := Option.some.inj h
      subst h
      exact finR1 hK rfl (RV.tmp hK rfl) ⟨rfl, hM.ext⟩
  · have h := bif_f hb9 h
    have hK := hK.re (d := 6) rfl (congrArg Value.bool hb9)
    refine sk hK rfl rfl rfl fun a hK => ?_
    refine sk hK rfl rfl rfl fun a hK => ?_
    refine sk hK rfl rfl rfl fun a hK => ?_
    iterate 2 (refine s1 hK rfl rfl rfl rfl fun a hK => ?_)
    refine sk hK rfl rfl rfl fun a hK => ?_
    refine sk hK rfl rfl rfl fun a hK => ?_
    refine sk hK rfl rfl rfl fun a hK => ?_
    iterate 2 (refine s1 hK rfl rfl rfl rfl fun a hK => ?_)
    refine sk hK rfl rfl rfl fun a hK => ?_
    refine sk hK rfl rfl rfl fun a hK => ?_
    refine sk hK rfl rfl rfl fun a hK => ?_
    iterate 2 (refine s1 hK rfl rfl rfl rfl fun a hK => ?_)
    refine sk hK rfl rfl rfl fun a hK => ?_
    refine sk hK rfl rfl rfl fun a hK => ?_
    refine sk hK rfl rfl rfl fun a hK => ?_
    iterate 2 (refine s1 hK rfl rfl rfl rfl fun a hK => ?_)
    refine sk hK rfl rfl rfl fun a hK => ?_
    refine sk hK rfl rfl rfl fun a hK => ?_
    refine sk hK rfl rfl rfl fun a hK => ?_
    iterate 2 (refine s1 hK rfl rfl rfl rfl fun a hK => ?_)
    refine sk hK rfl rfl rfl fun a hK => ?_
    refine sk hK rfl rfl rfl fun a hK => ?_
    refine sk hK rfl rfl rfl fun a hK => ?_
    iterate 2 (refine s1 hK rfl rfl rfl rfl fun a hK => ?_)
    have hK := hK.keep [2] rfl
    refine wpList_nil (nm_then ?_)
    refine wp_ret ?_
    have h := Option.some.inj h
    subst h
    exact finR1 hK rfl (RV.tmp hK rfl) ⟨rfl, hM.ext⟩

theorem c_impl_BoundsOk (fu : Nat) {w0 : World} (r1 : Request) {cs2 : List Value} {F3 : List Nat} (hp4 : rd w0 F3 cs2 r1) {r : Bool}
    (h : d_impl_BoundsOk fu r1 = some r) :
    Calls Tryz.prog 179 #[.agg cs2.toArray] w0 fun e w => e = .returned (.bool (r)) ∧ Ext [] w0 w := by
  refine enter (vs := [_]) Tryz.func179 rfl Tryz.ntmps179 rfl fun a hK => ?_
  have hM := St.start w0
  obtain ⟨v5, F6, v7, F8, v9, F10, rfl, rfl, hf11, hf12, hf13⟩ := hp4
  unfold d_impl_BoundsOk at h
  refine wp_seq ?_
  refine wp_region_lit ?_
  refine s_box (cs := [.int .i64 (r1.fWay), .int .i64 (r1.fPallet.fW), .int .i64 (r1.fPallet.fD), .int .i64 (r1.fPallet.fH), .int .i64 (r1.fPallet.fGram), .int .i64 (r1.fClasses), v5, v7, .int .i64 (r1.fMaster), v9]) hM hK rfl rfl rfl rfl rfl rfl fun b14 w16 a hK hM hE hb15 => ?_
  refine s1 hK rfl rfl rfl rfl fun a hK => ?_
  refine wpList_nil (nm_then ?_)
  refine c_cut (fun a w => K 70 [(1, .pointer (some (⟨b14, 0, none⟩ : Addr)))] a ∧ St [] w0 w [([b14], w16)] ∧ d_impl_BoundsOk_J2 fu r1 = some r) ?_ ?_
  · rintro a w33 ⟨hK, hM, h⟩
    unfold d_impl_BoundsOk_J2 at h
    refine wp_seq ?_
    refine wp_seq ?_
    refine wp_region_lit ?_
    refine s_val hK rfl rfl rfl (r_fa fa40_3 hK rfl rfl) fun a hK => ?_
    refine s_val hK rfl rfl rfl (r_ldb t136 hM 0 hb15 6 hK rfl rfl rfl rfl rfl) fun a hK => ?_
    obtain ⟨x37, hx38, h⟩ := obind_some h
    refine s_call hK Tryz.call200 rfl rfl rfl rfl rfl (c_slices_ContainsFunc_impl_Pair_impl_Pair fu _ _ (Enc.rd_agr hf11 (hM.a00 (Enc.rd_lt hf11))) ⟨201, [], rfl, Tryz.call201, fun w y34 v35 r hE hv36 hx => by subst hv36; have hM := hM.step hE; exact c_impl_BoundsOk_1 fu _  hx⟩ hx38) fun e39 w40 hR => ?_
    obtain ⟨rfl, hE⟩ := hR
    refine ⟨_, rfl, fun a hK => ?_⟩
    have hM := hM.step hE
    refine wpList_nil (nm_then ?_)
    refine c_cond (b := x37) hK rfl (fun hb41 => ?_) (fun hb41 => ?_)
    · have h := bif_t hb41 h
      refine wp_seq ?_
      refine wp_region_lit ?_
      refine s1 hK rfl rfl rfl rfl fun a hK => ?_
      refine wpList_nil (nm_then ?_)
      refine wp_ret (rt_then ?_)
      have h := Option.some.inj h
      subst h
      exact finR1 hK rfl (RV.tmp hK rfl) ⟨rfl, hM.ext⟩
    · have h := bif_f hb41 h
      refine wp_skip (nm_then ?_)
      refine c_cut (fun a w => K 70 [(1, .pointer (some (⟨b14, 0, none⟩ : Addr)))] a ∧ St [] w0 w [([b14], w16)] ∧ d_impl_BoundsOk_J1 fu r1 = some r) ?_ ?_
      · rintro a w61 ⟨hK, hM, h⟩
        unfold d_impl_BoundsOk_J1 at h
        refine wp_seq ?_
        refine wp_region_lit ?_
        refine s1 hK rfl rfl rfl rfl fun a hK => ?_
        refine wpList_nil (nm_then ?_)
        refine wp_seq ?_
        refine wp_seq ?_
        refine wp_region_lit ?_
        refine s_val hK rfl rfl rfl (r_fa fa40_6 hK rfl rfl) fun a hK => ?_
        refine s_val hK rfl rfl rfl (r_ldb t138 hM 0 hb15 9 hK rfl rfl rfl rfl rfl) fun a hK => ?_
        refine s_val hK rfl rfl rfl (r_len (α := Item) hf13 hK Tryz.underlying38 rfl rfl) fun a hK => ?_
        refine s1 hK rfl rfl rfl rfl fun a hK => ?_
        refine wpList_nil (nm_then ?_)
        refine wp_block ?_
        refine c_loop (fun n a w => ∃ (units93 : Int) (x94 : Int), K 70 [(3, .int .i64 (units93)), (54, v9), (55, .int .i64 ((r1.fItems.length : Int))), (56, .int .i64 (x94))] a ∧ St [] w0 w [] ∧ d_impl_BoundsOk_L1 fu r1 n units93 x94 = some r) ?_ ?_ fu _ _ ?_
        · rintro a w ⟨_, _, _, _, h⟩
          cases (show none = some _ from h)
        · rintro m95 a w92 ⟨units93, x94, hK, hM, h⟩
          rw [d_impl_BoundsOk_L1_s] at h
          unfold d_impl_BoundsOk_L1_B at h
          refine wp_seq ?_
          refine wp_region_lit ?_
          refine s1 hK rfl rfl rfl rfl fun a hK => ?_
          refine wpList_nil (nm_then ?_)
          refine wp_seq ?_
          refine c_cond (b := decide (x94 < ((r1.fItems.length : Int)))) hK rfl (fun hb96 => ?_) (fun hb96 => ?_)
          · have h := bif_t hb96 h
            refine wp_skip (nm_then ?_)
            refine wp_seq ?_
            refine wp_block ?_
            refine wp_seq ?_
            refine wp_region_lit ?_
            obtain ⟨x97, hx98, h⟩ := obind_some h
            refine s_val hK rfl rfl rfl (r_ixa hf13 hx98 hK ts38 rfl rfl rfl) fun a hK => ?_
            refine s_val hK rfl rfl rfl (r_lde hf13 (hM.a00 (Enc.rd_lt hf13)) hx98 ta120 hK rfl rfl) fun a hK => ?_
            refine s_alloc (cs := [.int .i64 (0), .int .i64 (0), .int .i64 (0), .int .i64 (0), .int .i64 (0), .int .i64 (0), .int .i64 (0)]) hM hK Tryz.zeroValue120 rfl rfl rfl rfl rfl fun b99 w101 a hK hM hE hb100 => ?_
            refine s_stb (cs' := [.int .i64 (x97.fId), .int .i64 (x97.fW), .int .i64 (x97.fH), .int .i64 (x97.fD), .int .i64 (x97.fGram), .int .i64 (x97.fClass), .int .i64 (x97.fCount)]) Tryz.sizeOf120 hM 0 hb100 0 hK rfl rfl rfl rfl rfl rfl rfl rfl rfl rfl rfl fun w102 a hK hE hM hb103 => ?_
            refine wpList_nil (nm_then ?_)
            refine wp_seq ?_
            refine wp_seq ?_
            refine wp_region_lit ?_
            refine s_val hK rfl rfl rfl (r_ldB ta120 hM 0 hb103 0 hK rfl rfl rfl rfl rfl rfl) fun a hK => ?_
            obtain ⟨x104, hx105, h⟩ := obind_some h
            refine s_call hK Tryz.call204 rfl rfl rfl rfl rfl (c_impl_ItemOk fu (x97 : Item)  hx105) fun e106 w107 hR => ?_
            obtain ⟨rfl, hE⟩ := hR
            refine ⟨_, rfl, fun a hK => ?_⟩
            have hM := hM.step hE
            refine s1 hK rfl rfl rfl rfl fun a hK => ?_
            refine wpList_nil (nm_then ?_)
            refine c_cond (b := !x104) hK rfl (fun hb108 => ?_) (fun hb108 => ?_)
            · have h := bif_t hb108 h
              refine wp_seq ?_
              refine wp_region_lit ?_
              refine s1 hK rfl rfl rfl rfl fun a hK => ?_
              refine wpList_nil (nm_then ?_)
              refine wp_ret (rt_then (rt_block (rt_then (rt_then (rt_block (rt_then ?_))))))
              have h := Option.some.inj h
              subst h
              exact finR1 hK rfl (RV.tmp hK rfl) ⟨rfl, hM.ext⟩
            · have h := bif_f hb108 h
              refine wp_skip (nm_then ?_)
              refine wp_region_lit ?_
              refine s1 hK rfl rfl rfl rfl fun a hK => ?_
              refine s_val hK rfl rfl rfl (r_fa fa120_6 hK rfl rfl) fun a hK => ?_
              refine s_val hK rfl rfl rfl (r_ldb t13 hM 0 hb103 6 hK rfl rfl rfl rfl rfl) fun a hK => ?_
              iterate 2 (refine s1 hK rfl rfl rfl rfl fun a hK => ?_)
              refine wpList_nil (nm_block (nm_then ?_))
              refine wp_region_lit ?_
              iterate 2 (refine s1 hK rfl rfl rfl rfl fun a hK => ?_)
              refine wpList_nil (nm_then ?_)
              exact ⟨w64 (units93 + x97.fCount), w64 (x94 + 1), hK.keep [3, 54, 55, 56] rfl, hM.sel [] rfl (by decide), h⟩
          · have h := bif_f hb96 h
            refine wp_exit (ex_then (ex_then (ex_same (nm_then ?_))))
            refine wp_seq ?_
            refine wp_region_lit ?_
            iterate 3 (refine s1 hK rfl rfl rfl rfl fun a hK => ?_)
            refine wpList_nil (nm_then ?_)
            refine wp_ret ?_
            have h := Option.some.inj h
            subst h
            exact finR1 hK rfl (RV.tmp hK rfl) ⟨rfl, hM.ext⟩
        · exact ⟨0, 0, hK.keep [3, 54, 55, 56] rfl, hM.sel [] rfl (by decide), h⟩
      · refine wp_seq ?_
        refine wp_region_lit ?_
        refine s_val hK rfl rfl rfl (r_fa fa40_4 hK rfl rfl) fun a hK => ?_
        refine s_val hK rfl rfl rfl (r_ldb t137 hM 0 hb15 7 hK rfl rfl rfl rfl rfl) fun a hK => ?_
        refine s_val hK rfl rfl rfl (r_len (α := Typ) hf12 hK Tryz.underlying37 rfl rfl) fun a hK => ?_
        obtain ⟨x109, hx110, h⟩ := obind_some h
        refine s_call hK Tryz.call99 rfl rfl rfl rfl rfl (c_impl_in fu _ _ _  hx110) fun e111 w112 hR => ?_
        obtain ⟨rfl, hE⟩ := hR
        refine ⟨_, rfl, fun a hK => ?_⟩
        have hM := hM.step hE
        iterate 2 (refine s1 hK rfl rfl rfl rfl fun a hK => ?_)
        refine bsplit (!x109) (fun hb113 => ?_) (fun hb113 => ?_)
        · have h := bif_t hb113 h
          have hK := hK.re (d := 36) rfl (congrArg Value.bool hb113)
          refine sk hK rfl rfl rfl fun a hK => ?_
          refine sk hK rfl rfl rfl fun a hK => ?_
          refine sk hK rfl rfl rfl fun a hK => ?_
          iterate 2 (refine s1 hK rfl rfl rfl rfl fun a hK => ?_)
          refine sk hK rfl rfl rfl fun a hK => ?_
          refine sk hK rfl rfl rfl fun a hK => ?_
          refine sk hK rfl rfl rfl fun a hK => ?_
          refine sk hK rfl rfl rfl fun a hK => ?_
          iterate 2 (refine s1 hK rfl rfl rfl rfl fun a hK => ?_)
          refine sk hK rfl rfl rfl fun a hK => ?_
          refine sk hK rfl rfl rfl fun a hK => ?_
          refine sk hK rfl rfl rfl fun a hK => ?_
          refine sk hK rfl rfl rfl fun a hK => ?_
          refine s1 hK rfl rfl rfl rfl fun a hK => ?_
          have hK := hK.keep [1, 52] rfl
          refine wpList_nil (nm_then ?_)
          refine wp_cond_true (hK.ev rfl) ?_
          refine wp_seq ?_
          refine wp_region_lit ?_
          refine s1 hK rfl rfl rfl rfl fun a hK => ?_
          refine wpList_nil (nm_then ?_)
          refine wp_ret (rt_then ?_)
          have h := Option.some.inj h
          subst h
          exact finR1 hK rfl (RV.tmp hK rfl) ⟨rfl, hM.ext⟩
        · have h := bif_f hb113 h
          have hK := hK.re (d := 36) rfl (congrArg Value.bool hb113)
          refine s_val hK rfl rfl rfl (r_fa fa40_4 hK rfl rfl) fun a hK => ?_
          refine s_val hK rfl rfl rfl (r_ldb t137 hM 0 hb15 7 hK rfl rfl rfl rfl rfl) fun a hK => ?_
          obtain ⟨x117, hx118, h⟩ := obind_some h
          refine s_call hK Tryz.call184 rfl rfl rfl rfl rfl (c_slices_ContainsFunc_impl_Type_impl_Type fu _ _ (Enc.rd_agr hf12 (hM.a00 (Enc.rd_lt hf12))) ⟨202, [], rfl, Tryz.call202, fun w y114 v115 r hE hv116 hx => by subst hv116; have hM := hM.step hE; exact c_impl_BoundsOk_2 fu _  hx⟩ hx118) fun e119 w120 hR => ?_
          obtain ⟨rfl, hE⟩ := hR
          refine ⟨_, rfl, fun a hK => ?_⟩
          have hM := hM.step hE
          iterate 2 (refine s1 hK rfl rfl rfl rfl fun a hK => ?_)
          refine bsplit (x117) (fun hb121 => ?_) (fun hb121 => ?_)
          · have h := bif_t hb121 h
            have hK := hK.re (d := 41) rfl (congrArg Value.bool hb121)
            refine sk hK rfl rfl rfl fun a hK => ?_
            refine sk hK rfl rfl rfl fun a hK => ?_
            refine sk hK rfl rfl rfl fun a hK => ?_
            refine sk hK rfl rfl rfl fun a hK => ?_
            iterate 2 (refine s1 hK rfl rfl rfl rfl fun a hK => ?_)
            refine sk hK rfl rfl rfl fun a hK => ?_
            refine sk hK rfl rfl rfl fun a hK => ?_
            refine sk hK rfl rfl rfl fun a hK => ?_
            refine sk hK rfl rfl rfl fun a hK => ?_
            refine s1 hK rfl rfl rfl rfl fun a hK => ?_
            have hK := hK.keep [1, 52] rfl
            refine wpList_nil (nm_then ?_)
            refine wp_cond_true (hK.ev rfl) ?_
            refine wp_seq ?_
            refine wp_region_lit ?_
            refine s1 hK rfl rfl rfl rfl fun a hK => ?_
            refine wpList_nil (nm_then ?_)
            refine wp_ret (rt_then ?_)
            have h := Option.some.inj h
            subst h
            exact finR1 hK rfl (RV.tmp hK rfl) ⟨rfl, hM.ext⟩
          · have h := bif_f hb121 h
            have hK := hK.re (d := 41) rfl (congrArg Value.bool hb121)
            refine s_val hK rfl rfl rfl (r_fa fa40_5 hK rfl rfl) fun a hK => ?_
            refine s_val hK rfl rfl rfl (r_ldb t13 hM 0 hb15 8 hK rfl rfl rfl rfl rfl) fun a hK => ?_
            obtain ⟨x122, hx123, h⟩ := obind_some h
            refine s_call hK Tryz.call99 rfl rfl rfl rfl rfl (c_impl_in fu _ _ _  hx123) fun e124 w125 hR => ?_
            obtain ⟨rfl, hE⟩ := hR
            refine ⟨_, rfl, fun a hK => ?_⟩
            have hM := hM.step hE
            iterate 3 (refine s1 hK rfl rfl rfl rfl fun a hK => ?_)
            refine bsplit (!x122) (fun hb126 => ?_) (fun hb126 => ?_)
            · have h := bif_t hb126 h
              have hK := hK.re (d := 47) rfl (congrArg Value.bool hb126)
              refine sk hK rfl rfl rfl fun a hK => ?_
              refine sk hK rfl rfl rfl fun a hK => ?_
              refine sk hK rfl rfl rfl fun a hK => ?_
              refine sk hK rfl rfl rfl fun a hK => ?_
              refine s1 hK rfl rfl rfl rfl fun a hK => ?_
              have hK := hK.keep [1, 52] rfl
              refine wpList_nil (nm_then ?_)
              refine wp_cond_true (hK.ev rfl) ?_
              refine wp_seq ?_
              refine wp_region_lit ?_
              refine s1 hK rfl rfl rfl rfl fun a hK => ?_
              refine wpList_nil (nm_then ?_)
              refine wp_ret (rt_then ?_)
              have h := Option.some.inj h
              subst h
              exact finR1 hK rfl (RV.tmp hK rfl) ⟨rfl, hM.ext⟩
            · have h := bif_f hb126 h
              have hK := hK.re (d := 47) rfl (congrArg Value.bool hb126)
              refine s_val hK rfl rfl rfl (r_fa fa40_6 hK rfl rfl) fun a hK => ?_
              refine s_val hK rfl rfl rfl (r_ldb t138 hM 0 hb15 9 hK rfl rfl rfl rfl rfl) fun a hK => ?_
              refine s_val hK rfl rfl rfl (r_len (α := Item) hf13 hK Tryz.underlying38 rfl rfl) fun a hK => ?_
              iterate 2 (refine s1 hK rfl rfl rfl rfl fun a hK => ?_)
              have hK := hK.keep [1, 52] rfl
              refine wpList_nil (nm_then ?_)
              refine c_cond (b := decide (((r1.fItems.length : Int)) > 8)) hK rfl (fun hb127 => ?_) (fun hb127 => ?_)
              · have h := bif_t hb127 h
                refine wp_seq ?_
                refine wp_region_lit ?_
                refine s1 hK rfl rfl rfl rfl fun a hK => ?_
                refine wpList_nil (nm_then ?_)
                refine wp_ret (rt_then ?_)
                have h := Option.some.inj h
                subst h
                exact finR1 hK rfl (RV.tmp hK rfl) ⟨rfl, hM.ext⟩
              · have h := bif_f hb127 h
                refine wp_skip (nm_then ?_)
                exact ⟨hK.keep [1] rfl, hM.sel [0] rfl (by decide), h⟩
  · refine wp_seq ?_
    refine wp_region_lit ?_
    refine s_val hK rfl rfl rfl (r_fa fa40_0 hK rfl rfl) fun a hK => ?_
    refine s_val hK rfl rfl rfl (r_ldb t13 hM 0 hb15 0 hK rfl rfl rfl rfl rfl) fun a hK => ?_
    obtain ⟨x128, hx129, h⟩ := obind_some h
    refine s_call hK Tryz.call99 rfl rfl rfl rfl rfl (c_impl_in fu _ _ _  hx129) fun e130 w131 hR => ?_
    obtain ⟨rfl, hE⟩ := hR
    refine ⟨_, rfl, fun a hK => ?_⟩
    have hM := hM.step hE
    iterate 2 (refine s1 hK rfl rfl rfl rfl fun a hK => ?_)
    refine bsplit (!x128) (fun hb132 => ?_) (fun hb132 => ?_)
    · have h := bif_t hb132 h
      have hK := hK.re (d := 10) rfl (congrArg Value.bool hb132)
      refine sk hK rfl rfl rfl fun a hK => ?_
      refine sk hK rfl rfl rfl fun a hK => ?_
      refine sk hK rfl rfl rfl fun a hK => ?_
      refine sk hK rfl rfl rfl fun a hK => ?_
      iterate 2 (refine s1 hK rfl rfl rfl rfl fun a hK => ?_)
      refine sk hK rfl rfl rfl fun a hK => ?_
      refine sk hK rfl rfl rfl fun a hK => ?_
      refine sk hK rfl rfl rfl fun a hK => ?_
      refine sk hK rfl rfl rfl fun a hK => ?_
      iterate 2 (refine s1 hK rfl rfl rfl rfl fun a hK => ?_)
      refine sk hK rfl rfl rfl fun a hK => ?_
      refine sk hK rfl rfl rfl fun a hK => ?_
      refine sk hK rfl rfl rfl fun a hK => ?_
      refine sk hK rfl rfl rfl fun a hK => ?_
      refine s1 hK rfl rfl rfl rfl fun a hK => ?_
      refine wpList_nil (nm_then ?_)
      refine wp_cond_true (hK.ev rfl) ?_
      refine wp_seq ?_
      refine wp_region_lit ?_
      refine s1 hK rfl rfl rfl rfl fun a hK => ?_
      have hK := hK.keep [2] rfl
      refine wpList_nil (nm_then ?_)
      refine wp_ret (rt_then ?_)
      have h := Option.some.inj h
      subst h
      exact finR1 hK rfl (RV.tmp hK rfl) ⟨rfl, hM.ext⟩
    · have h := bif_f hb132 h
      have hK := hK.re (d := 10) rfl (congrArg Value.bool hb132)
      refine s_val hK rfl rfl rfl (r_fa fa40_1 hK rfl rfl) fun a hK => ?_
      refine s_val hK rfl rfl rfl (r_ldB ta35 hM 0 hb15 1 hK rfl rfl rfl rfl rfl rfl) fun a hK => ?_
      obtain ⟨x133, hx134, h⟩ := obind_some h
      refine s_call hK Tryz.call199 rfl rfl rfl rfl rfl (c_impl_PalletOk fu (r1.fPallet : Pallet)  hx134) fun e135 w136 hR => ?_
      obtain ⟨rfl, hE⟩ := hR
      refine ⟨_, rfl, fun a hK => ?_⟩
      have hM := hM.step hE
      iterate 3 (refine s1 hK rfl rfl rfl rfl fun a hK => ?_)
      refine bsplit (!x133) (fun hb137 => ?_) (fun hb137 => ?_)
      · have h := bif_t hb137 h
        have hK := hK.re (d := 16) rfl (congrArg Value.bool hb137)
        refine sk hK rfl rfl rfl fun a hK => ?_
        refine sk hK rfl rfl rfl fun a hK => ?_
        refine sk hK rfl rfl rfl fun a hK => ?_
        refine sk hK rfl rfl rfl fun a hK => ?_
        iterate 2 (refine s1 hK rfl rfl rfl rfl fun a hK => ?_)
        refine sk hK rfl rfl rfl fun a hK => ?_
        refine sk hK rfl rfl rfl fun a hK => ?_
        refine sk hK rfl rfl rfl fun a hK => ?_
        refine sk hK rfl rfl rfl fun a hK => ?_
        refine s1 hK rfl rfl rfl rfl fun a hK => ?_
        refine wpList_nil (nm_then ?_)
        refine wp_cond_true (hK.ev rfl) ?_
        refine wp_seq ?_
        refine wp_region_lit ?_
        refine s1 hK rfl rfl rfl rfl fun a hK => ?_
        have hK := hK.keep [2] rfl
        refine wpList_nil (nm_then ?_)
        refine wp_ret (rt_then ?_)
        have h := Option.some.inj h
        subst h
        exact finR1 hK rfl (RV.tmp hK rfl) ⟨rfl, hM.ext⟩
      · have h := bif_f hb137 h
        have hK := hK.re (d := 16) rfl (congrArg Value.bool hb137)
        refine s_val hK rfl rfl rfl (r_fa fa40_2 hK rfl rfl) fun a hK => ?_
        refine s_val hK rfl rfl rfl (r_ldb t13 hM 0 hb15 5 hK rfl rfl rfl rfl rfl) fun a hK => ?_
        obtain ⟨x138, hx139, h⟩ := obind_some h
        refine s_call hK Tryz.call99 rfl rfl rfl rfl rfl (c_impl_in fu _ _ _  hx139) fun e140 w141 hR => ?_
        obtain ⟨rfl, hE⟩ := hR
        refine ⟨_, rfl, fun a hK => ?_⟩
        have hM := hM.step hE
        iterate 3 (refine s1 hK rfl rfl rfl rfl fun a hK => ?_)
        refine bsplit (!x138) (fun hb142 => ?_) (fun hb142 => ?_)
        · have h := bif_t hb142 h
          have hK := hK.re (d := 22) rfl (congrArg Value.bool hb142)
          refine sk hK rfl rfl rfl fun a hK => ?_
          refine sk hK rfl rfl rfl fun a hK => ?_
          refine sk hK rfl rfl rfl fun a hK => ?_
          refine sk hK rfl rfl rfl fun a hK => ?_
          refine s1 hK rfl rfl rfl rfl fun a hK => ?_
          refine wpList_nil (nm_then ?_)
          refine wp_cond_true (hK.ev rfl) ?_
          refine wp_seq ?_
          refine wp_region_lit ?_
          refine s1 hK rfl rfl rfl rfl fun a hK => ?_
          have hK := hK.keep [2] rfl
          refine wpList_nil (nm_then ?_)
          refine wp_ret (rt_then ?_)
          have h := Option.some.inj h
          subst h
          exact finR1 hK rfl (RV.tmp hK rfl) ⟨rfl, hM.ext⟩
        · have h := bif_f hb142 h
          have hK := hK.re (d := 22) rfl (congrArg Value.bool hb142)
          refine s_val hK rfl rfl rfl (r_fa fa40_3 hK rfl rfl) fun a hK => ?_
          refine s_val hK rfl rfl rfl (r_ldb t136 hM 0 hb15 6 hK rfl rfl rfl rfl rfl) fun a hK => ?_
          refine s_val hK rfl rfl rfl (r_len (α := Pair) hf11 hK Tryz.underlying36 rfl rfl) fun a hK => ?_
          iterate 2 (refine s1 hK rfl rfl rfl rfl fun a hK => ?_)
          refine wpList_nil (nm_then ?_)
          refine c_cond (b := decide (((r1.fPairs.length : Int)) > 16)) hK rfl (fun hb143 => ?_) (fun hb143 => ?_)
          · have h := bif_t hb143 h
            refine wp_seq ?_
            refine wp_region_lit ?_
            refine s1 hK rfl rfl rfl rfl fun a hK => ?_
            have hK := hK.keep [2] rfl
            refine wpList_nil (nm_then ?_)
            refine wp_ret (rt_then ?_)
            have h := Option.some.inj h
            subst h
            exact finR1 hK rfl (RV.tmp hK rfl) ⟨rfl, hM.ext⟩
          · have h := bif_f hb143 h
            refine wp_skip (nm_then ?_)
            exact ⟨hK.keep [1] rfl, hM.sel [0] rfl (by decide), h⟩

end Go.Proofs.YthjbcfefkdbgoaaGreat
