/- FnExactRivalBy: the walks of functions that the law reaches, part 4. Printed by gen.py. -/
import Derived.Test.YthjbcfefkdbgoaaGreatExactRivalByW3
set_option maxRecDepth 20000
set_option linter.unusedSimpArgs false
set_option linter.unusedVariables false
namespace Go.Proofs.YthjbcfefkdbgoaaGreat
open Go Go.RowKit
open Enc (rd ow)
open Arg (argv)
open Ret (retv)
open Go.Proofs.Tryz

theorem seq144 : SEq Tryz.prog 144 Pair := seqPair underlying144 Tryz.stoodInHeld144 Tryz.eqGuardType144 underlying3 rfl
theorem bt144 : BT Tryz.prog 144 [.int .i64 0, .int .i64 0] #[(0, 1), (1, 1)] := ⟨zeroValue144, _, underlying144, fun w => by simp [sizeOf3]⟩

def d_slices_Index_impl_Pair_impl_Pair_L1_B (fu : Nat)  (sv1 : List Pair) (v5 : Pair) (k1 : Int → Option (Int)) (x23 : Int) : Option (Int) :=
  bif (decide (x23 < ((sv1.length : Int)))) then obind (ix sv1 x23) fun x27 => bif (decide (v5 = x27)) then some (x23) else k1 (w64 (x23 + 1)) else some ((-1))
def d_slices_Index_impl_Pair_impl_Pair_L1 (fu : Nat)  (sv1 : List Pair) (v5 : Pair) : Nat → Int → Option (Int)
  | 0 => fun _ => none
  | n + 1 => d_slices_Index_impl_Pair_impl_Pair_L1_B fu sv1 v5 (d_slices_Index_impl_Pair_impl_Pair_L1 fu sv1 v5 n)
theorem d_slices_Index_impl_Pair_impl_Pair_L1_s (fu : Nat)  (sv1 : List Pair) (v5 : Pair) (n : Nat) : d_slices_Index_impl_Pair_impl_Pair_L1 fu sv1 v5 (n + 1) = d_slices_Index_impl_Pair_impl_Pair_L1_B fu sv1 v5 (d_slices_Index_impl_Pair_impl_Pair_L1 fu sv1 v5 n) := rfl

def d_slices_Index_impl_Pair_impl_Pair (fu : Nat) (sv1 : List Pair) (v5 : Pair) : Option (Int) :=
  d_slices_Index_impl_Pair_impl_Pair_L1 fu sv1 v5 fu 0

def d_slices_Contains_impl_Pair_impl_Pair (fu : Nat) (sv1 : List Pair) (v5 : Pair) : Option (Bool) :=
  obind (d_slices_Index_impl_Pair_impl_Pair fu sv1 v5) fun x9 => some (decide (x9 ≥ 0))

def d_impl_Beside (fu : Nat) (pairs1 : List Pair) (a5 : Int) (b6 : Int) : Option (Bool) :=
  obind (d_slices_Contains_impl_Pair_impl_Pair fu pairs1 ((⟨a5, b6⟩ : Pair))) fun x7 => some (x7)

def d_impl_TableOk_L1_B (fu : Nat) (k3 : Int → Option (Bool)) (pairs1 : List Pair) (classes5 : Int) (x99 : Int) (k4 : Int → Option (Bool)) (x131 : Int) : Option (Bool) :=
  bif (decide (x131 < classes5)) then obind (d_impl_Beside fu pairs1 x99 x131) fun x134 => obind (d_impl_Beside fu pairs1 x131 x99) fun x138 => bif (!(x134 == x138)) then some (false) else k4 (w64 (x131 + 1)) else k3 (w64 (x99 + 1))
def d_impl_TableOk_L1 (fu : Nat) (k3 : Int → Option (Bool)) (pairs1 : List Pair) (classes5 : Int) (x99 : Int) : Nat → Int → Option (Bool)
  | 0 => fun _ => none
  | n + 1 => d_impl_TableOk_L1_B fu k3 pairs1 classes5 x99 (d_impl_TableOk_L1 fu k3 pairs1 classes5 x99 n)
theorem d_impl_TableOk_L1_s (fu : Nat) (k3 : Int → Option (Bool)) (pairs1 : List Pair) (classes5 : Int) (x99 : Int) (n : Nat) : d_impl_TableOk_L1 fu k3 pairs1 classes5 x99 (n + 1) = d_impl_TableOk_L1_B fu k3 pairs1 classes5 x99 (d_impl_TableOk_L1 fu k3 pairs1 classes5 x99 n) := rfl

def d_impl_TableOk_L2_B (fu : Nat)  (pairs1 : List Pair) (classes5 : Int) (k3 : Int → Option (Bool)) (x99 : Int) : Option (Bool) :=
  bif (decide (x99 < classes5)) then obind (d_impl_Beside fu pairs1 x99 x99) fun x102 => bif (!x102) then some (false) else d_impl_TableOk_L1 fu k3 pairs1 classes5 x99 fu 0 else some (true)
def d_impl_TableOk_L2 (fu : Nat)  (pairs1 : List Pair) (classes5 : Int) : Nat → Int → Option (Bool)
  | 0 => fun _ => none
  | n + 1 => d_impl_TableOk_L2_B fu pairs1 classes5 (d_impl_TableOk_L2 fu pairs1 classes5 n)
theorem d_impl_TableOk_L2_s (fu : Nat)  (pairs1 : List Pair) (classes5 : Int) (n : Nat) : d_impl_TableOk_L2 fu pairs1 classes5 (n + 1) = d_impl_TableOk_L2_B fu pairs1 classes5 (d_impl_TableOk_L2 fu pairs1 classes5 n) := rfl

def d_impl_TableOk (fu : Nat) (pairs1 : List Pair) (classes5 : Int) : Option (Bool) :=
  obind (d_impl_in fu classes5 1 4) fun x6 => bif (!x6) then some (false) else d_impl_TableOk_L2 fu pairs1 classes5 fu 0

def d_slices_Sort_int_int (fu : Nat) (x1 : List Int) : Option (List Int) := sortI x1

def d_impl_Fits_J1 (fu : Nat) (x1 : Item) (t2 : Typ) (a39 : List Int) (b44 : List Int) : Option (Bool) :=
  obind (d_slices_Sort_int_int fu a39) fun x49 => obind (d_slices_Sort_int_int fu b44) fun x56 => obind (ix x49 0) fun x64 => obind (ix x56 0) fun x66 => bif (decide (x64 ≤ x66)) then obind (ix x49 1) fun x69 => obind (ix x56 1) fun x71 => bif (decide (x69 ≤ x71)) then obind (ix x49 2) fun x74 => obind (ix x56 2) fun x76 => bif (decide (x74 ≤ x76)) then some (decide (x1.fGram ≤ t2.fGram)) else some (false) else some (false) else some (false)

def d_impl_Fits (fu : Nat) (x1 : Item) (t2 : Typ) : Option (Bool) :=
  d_impl_Fits_J1 fu x1 t2 (([x1.fW, x1.fH, x1.fD] : List Int)) (([t2.fW, t2.fH, t2.fD] : List Int))

def d_impl_Class_1 (fu : Nat) (x1 : Item) (x2 : Typ) : Option (Bool) :=
  obind (d_impl_Fits fu x1 x2) fun x8 => some (!x8)

def d_impl_Class_2 (fu : Nat) (t1 : Typ) (x2 : Pallet) : Option (Bool) :=
  bif (decide (t1.fW > x2.fW)) then some (true) else bif (decide (t1.fD > x2.fD)) then some (true) else bif (decide (t1.fH > x2.fH)) then some (true) else some (decide ((w64 (t1.fTare + t1.fGram)) > x2.fGram))

def d_impl_Class (fu : Nat) (r1 : Request) : Option (Int) :=
  obind (d_impl_MasterOf fu r1) fun x17 => obind (d_impl_BoundsOk fu r1) fun x31 => bif (!x31) then some (2) else obind (d_impl_namesOk fu r1) fun x36 => bif (!x36) then some (3) else obind (d_impl_TableOk fu r1.fPairs r1.fClasses) fun x41 => bif (!x41) then some (4) else obind (d_slices_ContainsFunc_impl_Item_impl_Item fu r1.fItems (fun y46 => d_impl_Class_1 fu y46 x17.1)) fun x49 => bif x49 then some (5) else obind (d_slices_ContainsFunc_impl_Type_impl_Type fu r1.fTypes (fun y54 => d_impl_Class_2 fu y54 r1.fPallet)) fun x57 => bif x57 then some (6) else some (0)

def d_impl_sound (fu : Nat) (r1 : Request) : Option (Bool) :=
  obind (d_impl_Class fu r1) fun x17 => some (x17 == 0)

def d_bits_Mul32 (fu : Nat) (x1 : Int) (y2 : Int) : Option (Int × Int) :=
  some (IntKind.wrap .u32 (Int.fdiv (IntKind.wrap .u64 ((IntKind.wrap .u64 x1) * (IntKind.wrap .u64 y2))) (2 ^ (min 32 (IntKind.bits .u64)))), IntKind.wrap .u32 (IntKind.wrap .u64 ((IntKind.wrap .u64 x1) * (IntKind.wrap .u64 y2))))

def d_bits_Mul64 (fu : Nat) (x1 : Int) (y2 : Int) : Option (Int × Int) :=
  some (IntKind.wrap .u64 ((IntKind.wrap .u64 ((IntKind.wrap .u64 ((Int.fdiv x1 (2 ^ (min 32 (IntKind.bits .u64)))) * (Int.fdiv y2 (2 ^ (min 32 (IntKind.bits .u64)))))) + (Int.fdiv (IntKind.wrap .u64 ((IntKind.wrap .u64 ((Int.fdiv x1 (2 ^ (min 32 (IntKind.bits .u64)))) * (IntKind.wrap .u64 (((BitVec.ofInt (IntKind.bits .u64) y2 &&& BitVec.ofInt (IntKind.bits .u64) 4294967295).toNat : Nat) : Int)))) + (Int.fdiv (IntKind.wrap .u64 ((IntKind.wrap .u64 (((BitVec.ofInt (IntKind.bits .u64) x1 &&& BitVec.ofInt (IntKind.bits .u64) 4294967295).toNat : Nat) : Int)) * (IntKind.wrap .u64 (((BitVec.ofInt (IntKind.bits .u64) y2 &&& BitVec.ofInt (IntKind.bits .u64) 4294967295).toNat : Nat) : Int)))) (2 ^ (min 32 (IntKind.bits .u64)))))) (2 ^ (min 32 (IntKind.bits .u64)))))) + (Int.fdiv (IntKind.wrap .u64 ((IntKind.wrap .u64 (((BitVec.ofInt (IntKind.bits .u64) (IntKind.wrap .u64 ((IntKind.wrap .u64 ((Int.fdiv x1 (2 ^ (min 32 (IntKind.bits .u64)))) * (IntKind.wrap .u64 (((BitVec.ofInt (IntKind.bits .u64) y2 &&& BitVec.ofInt (IntKind.bits .u64) 4294967295).toNat : Nat) : Int)))) + (Int.fdiv (IntKind.wrap .u64 ((IntKind.wrap .u64 (((BitVec.ofInt (IntKind.bits .u64) x1 &&& BitVec.ofInt (IntKind.bits .u64) 4294967295).toNat : Nat) : Int)) * (IntKind.wrap .u64 (((BitVec.ofInt (IntKind.bits .u64) y2 &&& BitVec.ofInt (IntKind.bits .u64) 4294967295).toNat : Nat) : Int)))) (2 ^ (min 32 (IntKind.bits .u64)))))) &&& BitVec.ofInt (IntKind.bits .u64) 4294967295).toNat : Nat) : Int)) + (IntKind.wrap .u64 ((IntKind.wrap .u64 (((BitVec.ofInt (IntKind.bits .u64) x1 &&& BitVec.ofInt (IntKind.bits .u64) 4294967295).toNat : Nat) : Int)) * (Int.fdiv y2 (2 ^ (min 32 (IntKind.bits .u64)))))))) (2 ^ (min 32 (IntKind.bits .u64))))), IntKind.wrap .u64 (x1 * y2))

def d_bits_Mul (fu : Nat) (x1 : Int) (y2 : Int) : Option (Int × Int) :=
  obind (d_bits_Mul64 fu x1 y2) fun x3 => some (x3.1, x3.2)

def d_slices_Repeat_int_int_L1_B (fu : Nat)   (k3 : List Int → Int → Option ((List Int))) (newslice64 : List Int) (n69 : Int) : Option ((List Int)) :=
  bif (decide (n69 < ((newslice64.length : Int)))) then obind (sls newslice64 n69 (newslice64.length : Int)) fun x73 => obind (sls newslice64 0 n69) fun x79 => k3 (cpd newslice64 n69 x79) (w64 (n69 + (cpn newslice64 n69 x79))) else some (newslice64)
def d_slices_Repeat_int_int_L1 (fu : Nat)   : Nat → List Int → Int → Option ((List Int))
  | 0 => fun _ _ => none
  | n + 1 => d_slices_Repeat_int_int_L1_B fu  (d_slices_Repeat_int_int_L1 fu  n)
theorem d_slices_Repeat_int_int_L1_s (fu : Nat)   (n : Nat) : d_slices_Repeat_int_int_L1 fu  (n + 1) = d_slices_Repeat_int_int_L1_B fu  (d_slices_Repeat_int_int_L1 fu  n) := rfl

def d_slices_Repeat_int_int_J1 (fu : Nat) (x1 : List Int) (x8 : Int × Int)  : Option ((List Int)) :=
  obind (mk 8 (0 : Int) (w64 x8.2)) fun x15 => d_slices_Repeat_int_int_L1 fu fu (cpd x15 0 x1) (cpn x15 0 x1)

def d_slices_Repeat_int_int_J2 (fu : Nat) (x1 : List Int) (count5 : Int)  : Option ((List Int)) :=
  obind (d_bits_Mul fu (IntKind.wrap .u64 ((x1.length : Int))) (IntKind.wrap .u64 count5)) fun x8 => bif (decide (x8.1 > 0)) then none else bif (decide (x8.2 > 9223372036854775807)) then none else d_slices_Repeat_int_int_J1 fu x1 x8

def d_slices_Repeat_int_int (fu : Nat) (x1 : List Int) (count5 : Int) : Option ((List Int)) :=
  bif (decide (count5 < 0)) then none else d_slices_Repeat_int_int_J2 fu x1 count5

def d_impl_Units_L1_B (fu : Nat)  (r1 : Request) (k1 : List Int → Int → Option ((List Int))) (out92 : List Int) (x97 : Int) : Option ((List Int)) :=
  bif (decide (x97 < ((r1.fItems.length : Int)))) then obind (ix r1.fItems x97) fun x100 => obind (d_slices_Repeat_int_int fu (([x97] : List Int)) x100.fCount) fun x112 => obind (apnd 8 out92 x112) fun x121 => k1 x121 (w64 (x97 + 1)) else some (out92)
def d_impl_Units_L1 (fu : Nat)  (r1 : Request) : Nat → List Int → Int → Option ((List Int))
  | 0 => fun _ _ => none
  | n + 1 => d_impl_Units_L1_B fu r1 (d_impl_Units_L1 fu r1 n)
theorem d_impl_Units_L1_s (fu : Nat)  (r1 : Request) (n : Nat) : d_impl_Units_L1 fu r1 (n + 1) = d_impl_Units_L1_B fu r1 (d_impl_Units_L1 fu r1 n) := rfl

def d_impl_Units (fu : Nat) (r1 : Request) : Option ((List Int)) :=
  obind (d_impl_sound fu r1) fun x17 => bif (!x17) then some (([] : List Int)) else d_impl_Units_L1 fu r1 fu (([] : List Int)) 0

def d_slices_Clone_int_int (fu : Nat) (sv1 : List Int) : Option ((List Int)) :=
  obind (apnd 8 (([] : List Int)) sv1) fun x15 => some (x15)

def d_impl_itemsOf_J1 (fu : Nat) (k3 : List Item → Int → Option ((List Item))) (x171 : Int) (out202 : List Item) : Option ((List Item)) :=
  k3 out202 (w64 (x171 + 1))

def d_impl_itemsOf_L1_B (fu : Nat)  (r1 : Request) (units5 : List Int) (x21 : (List Int)) (k3 : List Item → Int → Option ((List Item))) (out166 : List Item) (x171 : Int) : Option ((List Item)) :=
  bif (decide (x171 < ((units5.length : Int)))) then obind (ix units5 x171) fun x207 => obind (d_impl_in fu x207 0 (w64 (((x21.length : Int)) - 1))) fun x209 => bif x209 then obind (ix x21 x207) fun x215 => obind (ix r1.fItems x215) fun x217 => obind (apnd 56 out166 (([x217] : List Item))) fun x226 => d_impl_itemsOf_J1 fu k3 x171 x226 else d_impl_itemsOf_J1 fu k3 x171 out166 else some (out166)
def d_impl_itemsOf_L1 (fu : Nat)  (r1 : Request) (units5 : List Int) (x21 : (List Int)) : Nat → List Item → Int → Option ((List Item))
  | 0 => fun _ _ => none
  | n + 1 => d_impl_itemsOf_L1_B fu r1 units5 x21 (d_impl_itemsOf_L1 fu r1 units5 x21 n)
theorem d_impl_itemsOf_L1_s (fu : Nat)  (r1 : Request) (units5 : List Int) (x21 : (List Int)) (n : Nat) : d_impl_itemsOf_L1 fu r1 units5 x21 (n + 1) = d_impl_itemsOf_L1_B fu r1 units5 x21 (d_impl_itemsOf_L1 fu r1 units5 x21 n) := rfl

def d_impl_itemsOf (fu : Nat) (r1 : Request) (units5 : List Int) : Option ((List Item)) :=
  obind (d_impl_Units fu r1) fun x21 => d_impl_itemsOf_L1 fu r1 units5 x21 fu (([] : List Item)) 0

def d_impl_Volume_J1 (fu : Nat) (wv1 : Int) (h2 : Int) (d3 : Int)  : Option (Int) :=
  some (w64 ((w64 (wv1 * h2)) * d3))

def d_impl_Volume (fu : Nat) (wv1 : Int) (h2 : Int) (d3 : Int) : Option (Int) :=
  obind (d_impl_in fu wv1 0 2000) fun x20 => bif (!x20) then some (0) else obind (d_impl_in fu h2 0 2000) fun x25 => bif (!x25) then some (0) else obind (d_impl_in fu d3 0 2000) fun x30 => bif (!x30) then some (0) else d_impl_Volume_J1 fu wv1 h2 d3

def d_impl_VolumeOf_L1_B (fu : Nat)  (x21 : (List Item)) (k1 : Int → Int → Option (Int)) (n59 : Int) (x60 : Int) : Option (Int) :=
  bif (decide (x60 < ((x21.length : Int)))) then obind (ix x21 x60) fun x63 => obind (d_impl_Volume fu x63.fW x63.fH x63.fD) fun x70 => k1 (w64 (n59 + x70)) (w64 (x60 + 1)) else some (n59)
def d_impl_VolumeOf_L1 (fu : Nat)  (x21 : (List Item)) : Nat → Int → Int → Option (Int)
  | 0 => fun _ _ => none
  | n + 1 => d_impl_VolumeOf_L1_B fu x21 (d_impl_VolumeOf_L1 fu x21 n)
theorem d_impl_VolumeOf_L1_s (fu : Nat)  (x21 : (List Item)) (n : Nat) : d_impl_VolumeOf_L1 fu x21 (n + 1) = d_impl_VolumeOf_L1_B fu x21 (d_impl_VolumeOf_L1 fu x21 n) := rfl

def d_impl_VolumeOf (fu : Nat) (r1 : Request) (units5 : List Int) : Option (Int) :=
  obind (d_impl_itemsOf fu r1 units5) fun x21 => d_impl_VolumeOf_L1 fu x21 fu 0 0

def d_impl_GramOf_L1_B (fu : Nat)  (x21 : (List Item)) (k1 : Int → Int → Option (Int)) (n51 : Int) (x52 : Int) : Option (Int) :=
  bif (decide (x52 < ((x21.length : Int)))) then obind (ix x21 x52) fun x55 => k1 (w64 (n51 + x55.fGram)) (w64 (x52 + 1)) else some (n51)
def d_impl_GramOf_L1 (fu : Nat)  (x21 : (List Item)) : Nat → Int → Int → Option (Int)
  | 0 => fun _ _ => none
  | n + 1 => d_impl_GramOf_L1_B fu x21 (d_impl_GramOf_L1 fu x21 n)
theorem d_impl_GramOf_L1_s (fu : Nat)  (x21 : (List Item)) (n : Nat) : d_impl_GramOf_L1 fu x21 (n + 1) = d_impl_GramOf_L1_B fu x21 (d_impl_GramOf_L1 fu x21 n) := rfl

def d_impl_GramOf (fu : Nat) (r1 : Request) (units5 : List Int) : Option (Int) :=
  obind (d_impl_itemsOf fu r1 units5) fun x21 => d_impl_GramOf_L1 fu x21 fu 0 0

def d_impl_within (fu : Nat) (r1 : Request) (content5 : List Int) (t9 : Typ) : Option (Bool) :=
  obind (d_impl_VolumeOf fu r1 content5) fun x26 => obind (d_impl_Volume fu t9.fW t9.fH t9.fD) fun x30 => bif (decide (x26 ≤ x30)) then obind (d_impl_GramOf fu r1 content5) fun x35 => some (decide (x35 ≤ t9.fGram)) else some (false)

def d_impl_Room (fu : Nat) (r1 : Request) (content5 : List Int) (u9 : Int) : Option (Bool) :=
  obind (d_impl_MasterOf fu r1) fun x22 => obind (d_impl_sound fu r1) fun x32 => bif x32 then obind (d_slices_Clone_int_int fu content5) fun x37 => obind (apnd 8 x37 (([u9] : List Int))) fun x54 => obind (d_impl_within fu r1 x54 x22.1) fun x62 => some (x62) else some (false)

def d_impl_mutual (fu : Nat) (pairs1 : List Pair) (a5 : Int) (b6 : Int) : Option (Bool) :=
  obind (d_impl_Beside fu pairs1 a5 b6) fun x7 => bif x7 then obind (d_impl_Beside fu pairs1 b6 a5) fun x12 => some (x12) else some (false)

def d_impl_mayLie_1_1 (fu : Nat) (y1 : Item) (x2 : Request) (x14 : Item) : Option (Bool) :=
  obind (d_impl_mutual fu x2.fPairs x14.fClass y1.fClass) fun x20 => some (!x20)

def d_impl_mayLie_1 (fu : Nat) (x1 : Item) (x2 : List Item) (x8 : Request) : Option (Bool) :=
  obind (d_slices_ContainsFunc_impl_Item_impl_Item fu x2 (fun y23 => d_impl_mayLie_1_1 fu y23 x8 x1)) fun x26 => some (x26)

def d_impl_mayLie (fu : Nat) (r1 : Request) (content5 : List Int) (u9 : Int) : Option (Bool) :=
  obind (d_impl_itemsOf fu r1 (([u9] : List Int))) fun x27 => obind (d_impl_itemsOf fu r1 content5) fun x41 => obind (d_slices_ContainsFunc_impl_Item_impl_Item fu x41 (fun y50 => d_impl_mayLie_1 fu y50 x27 r1)) fun x53 => some (!x53)

def d_impl_RivalBy_J1 (fu : Nat) (k23 : List (List Int) → Int → Option ((List (List Int)))) (x1467 : Int) (out1822 : List (List Int)) : Option ((List (List Int))) :=
  k23 out1822 (w64 (x1467 + 1))

def d_impl_RivalBy_J2 (fu : Nat) (k33 : List Int → Int → Option ((List (List Int)))) (x1985 : Int) (list2019 : List Int) : Option ((List (List Int))) :=
  k33 list2019 (w64 (x1985 + 1))

def d_impl_RivalBy_L1_B (fu : Nat) (k23 : List (List Int) → Int → Option ((List (List Int)))) (r1 : Request) (out1462 : List (List Int)) (x1467 : Int) (pick1831 : Int) (k33 : List Int → Int → Option ((List (List Int)))) (list1980 : List Int) (x1985 : Int) : Option ((List (List Int))) :=
  bif (decide (x1985 < ((out1462.length : Int)))) then obind (ix out1462 x1985) fun x2024 => obind (d_impl_Room fu r1 x2024 x1467) fun x2033 => bif x2033 then obind (d_impl_mayLie fu r1 x2024 x1467) fun x2038 => bif x2038 then obind (apnd 8 list1980 (([x1985] : List Int))) fun x2048 => d_impl_RivalBy_J2 fu k33 x1985 x2048 else d_impl_RivalBy_J2 fu k33 x1985 list1980 else d_impl_RivalBy_J2 fu k33 x1985 list1980 else obind (odiv (w64 (((list1980.length : Int)) + 1))) fun u2054 => obind (odiv (w64 (((list1980.length : Int)) + 1))) fun u2056 => bif ((Int.tmod (w64 ((Int.tmod pick1831 (w64 (((list1980.length : Int)) + 1))) + (w64 (((list1980.length : Int)) + 1)))) (w64 (((list1980.length : Int)) + 1))) == ((list1980.length : Int))) then obind (apnd 24 out1462 [([x1467] : List Int)]) fun x2068 => d_impl_RivalBy_J1 fu k23 x1467 x2068 else obind (ix list1980 (Int.tmod (w64 ((Int.tmod pick1831 (w64 (((list1980.length : Int)) + 1))) + (w64 (((list1980.length : Int)) + 1)))) (w64 (((list1980.length : Int)) + 1)))) fun x2078 => obind (ix list1980 (Int.tmod (w64 ((Int.tmod pick1831 (w64 (((list1980.length : Int)) + 1))) + (w64 (((list1980.length : Int)) + 1)))) (w64 (((list1980.length : Int)) + 1)))) fun x2080 => obind (ix out1462 x2078) fun x2082 => obind (apnd 8 x2082 (([x1467] : List Int))) fun x2112 => obind (ix out1462 x2078) fun x2126 => d_impl_RivalBy_J1 fu k23 x1467 (setx out1462 x2078 x2112)
def d_impl_RivalBy_L1 (fu : Nat) (k23 : List (List Int) → Int → Option ((List (List Int)))) (r1 : Request) (out1462 : List (List Int)) (x1467 : Int) (pick1831 : Int) : Nat → List Int → Int → Option ((List (List Int)))
  | 0 => fun _ _ => none
  | n + 1 => d_impl_RivalBy_L1_B fu k23 r1 out1462 x1467 pick1831 (d_impl_RivalBy_L1 fu k23 r1 out1462 x1467 pick1831 n)
theorem d_impl_RivalBy_L1_s (fu : Nat) (k23 : List (List Int) → Int → Option ((List (List Int)))) (r1 : Request) (out1462 : List (List Int)) (x1467 : Int) (pick1831 : Int) (n : Nat) : d_impl_RivalBy_L1 fu k23 r1 out1462 x1467 pick1831 (n + 1) = d_impl_RivalBy_L1_B fu k23 r1 out1462 x1467 pick1831 (d_impl_RivalBy_L1 fu k23 r1 out1462 x1467 pick1831 n) := rfl

def d_impl_RivalBy_J3 (fu : Nat) (k23 : List (List Int) → Int → Option ((List (List Int)))) (r1 : Request) (out1462 : List (List Int)) (x1467 : Int) (pick1831 : Int) : Option ((List (List Int))) :=
  d_impl_RivalBy_L1 fu k23 r1 out1462 x1467 pick1831 fu (([] : List Int)) 0

def d_impl_RivalBy_L2_B (fu : Nat)  (r1 : Request) (picks5 : List Int) (x26 : (List Int)) (k23 : List (List Int) → Int → Option ((List (List Int)))) (out1462 : List (List Int)) (x1467 : Int) : Option ((List (List Int))) :=
  bif (decide (x1467 < ((x26.length : Int)))) then bif (decide (x1467 < ((picks5.length : Int)))) then obind (ix picks5 x1467) fun x2174 => d_impl_RivalBy_J3 fu k23 r1 out1462 x1467 x2174 else d_impl_RivalBy_J3 fu k23 r1 out1462 x1467 0 else some (out1462)
def d_impl_RivalBy_L2 (fu : Nat)  (r1 : Request) (picks5 : List Int) (x26 : (List Int)) : Nat → List (List Int) → Int → Option ((List (List Int)))
  | 0 => fun _ _ => none
  | n + 1 => d_impl_RivalBy_L2_B fu r1 picks5 x26 (d_impl_RivalBy_L2 fu r1 picks5 x26 n)
theorem d_impl_RivalBy_L2_s (fu : Nat)  (r1 : Request) (picks5 : List Int) (x26 : (List Int)) (n : Nat) : d_impl_RivalBy_L2 fu r1 picks5 x26 (n + 1) = d_impl_RivalBy_L2_B fu r1 picks5 x26 (d_impl_RivalBy_L2 fu r1 picks5 x26 n) := rfl

def d_impl_RivalBy (fu : Nat) (r1 : Request) (picks5 : List Int) : Option ((List (List Int))) :=
  obind (d_impl_Units fu r1) fun x26 => d_impl_RivalBy_L2 fu r1 picks5 x26 fu (([] : List (List Int))) 0

theorem c_slices_Index_impl_Pair_impl_Pair (fu : Nat) {w0 : World} (sv1 : List Pair) (v5 : Pair) {v2 : Value} {F3 : List Nat} (hp4 : rd w0 F3 [v2] sv1) {r : Int}
    (h : d_slices_Index_impl_Pair_impl_Pair fu sv1 v5 = some r) :
    Calls Tryz.prog 226 #[v2, .agg (Flat.e (v5)).toArray] w0 fun e w => e = .returned (.int .i64 r) ∧ Ext [] w0 w := by
 refine enter (vs := [_, _]) func226 rfl ntmps226 rfl fun a k => ?_
 have m := St.start w0
 unfold d_slices_Index_impl_Pair_impl_Pair at h
 refine wr (s_box (cs := [.int .i64 v5.fA, .int .i64 v5.fB]) m k rfl rfl rfl rfl rfl rfl fun b6 w8 a k m e hb7 => pN 1 k rfl fun a k => nn (wp_seq (wr (pN 1 k rfl fun a k => sv k rfl (r_len (α := Pair) hp4 k underlying36 rfl rfl) fun a k => pN 1 k rfl fun a k => nn (wp_block (c_loop (fun n a w => ∃ (x23 : Int), K 19 [(0, v2), (3, .pointer (some (⟨b6, 0, none⟩ : Addr))), (7, .int .i64 ((sv1.length : Int))), (8, .int .i64 x23)] a ∧ St [] w0 w [([b6], w8)] ∧ d_slices_Index_impl_Pair_impl_Pair_L1 fu sv1 v5 n x23 = some r) ?_ ?_ fu _ _ ?_))))))
 · rintro a w ⟨_, _, _, h⟩
   exact nS h
 · rintro m24 a w22 ⟨x23, k, m, h⟩
   rw [d_slices_Index_impl_Pair_impl_Pair_L1_s] at h
   unfold d_slices_Index_impl_Pair_impl_Pair_L1_B at h
   refine wr (pN 1 k rfl fun a k => nn (wp_seq (cI h k rfl (fun hb25 h => ?_) fun hb25 h => ?_)))
   · refine wp_skip (nm_then ?_)
     refine wp_seq (wp_block (wr (pN 2 k rfl fun a k => nn (wp_seq (d_go [] mixo m rfl fun w26 hMd => ?_)))))
     have m := hMd
     have s := Ext.refl ([] : List Nat) w26
     refine dt k 0 rfl (by kernel_rfl) rfl s (fun _ _ _ => id) (fun w s => r_ldA ta144 (hb7.at ((hMd.step s).a 0 rfl) 0 2 rfl rfl rfl) rfl k rfl rfl) fun a k => dp k 1 rfl (by kernel_rfl) rfl s (fun _ _ _ => id) rfl fun a k => dp k 2 rfl (by kernel_rfl) rfl s (fun _ _ _ => id) rfl fun a k => oE h fun x27 hx28 h => dt k 3 rfl (by kernel_rfl) rfl s (fun _ _ _ => id) (fun w s => r_ixa hp4 hx28 k ts36 rfl rfl rfl) fun a k => dt k 4 rfl (by kernel_rfl) rfl s (fun _ _ _ => id) (fun w s => r_lde hp4 ((hMd.step s).a00 (Enc.rd_lt hp4)) hx28 ta144 k rfl rfl) fun a k => dt k 5 rfl (by kernel_rfl) rfl s (fun _ _ _ => id) (fun w s => r_eqs seq144 (x := v5) (y := x27) k rfl rfl rfl rfl rfl) fun a k => d_done (by kernel_rfl) ((nm_then ?_))
     refine cI h k rfl (fun hb29 h => ?_) fun hb29 h => ?_
     · refine wr (pN 2 k rfl fun a k => nn (wp_ret (rt_block (rt_then (rt_then (rt_block (rt_then ?_)))))))
       refine fS h k m rfl rfl
     refine wp_skip (nm_block (nm_then ?_))
     refine wp_region_lit (pN 2 k rfl fun a k => nn ?_)
     exact ⟨w64 (x23 + 1), k.keep [0, 3, 7, 8] rfl, m.sel [0] rfl (by decide), h⟩
   refine wp_exit (ex_then (ex_then (ex_same (nm_then ?_))))
   refine wr (pN 1 k rfl fun a k => nn (wp_ret (fS h k m rfl rfl)))
 exact ⟨0, k.keep [0, 3, 7, 8] rfl, m.sel [0] rfl (by decide), h⟩
theorem c_slices_Contains_impl_Pair_impl_Pair (fu : Nat) {w0 : World} (sv1 : List Pair) (v5 : Pair) {v2 : Value} {F3 : List Nat} (hp4 : rd w0 F3 [v2] sv1) {r : Bool}
    (h : d_slices_Contains_impl_Pair_impl_Pair fu sv1 v5 = some r) :
    Calls Tryz.prog 211 #[v2, .agg (Flat.e (v5)).toArray] w0 fun e w => e = .returned (.bool (r)) ∧ Ext [] w0 w := by
 refine enter (vs := [_, _]) func211 rfl ntmps211 rfl fun a k => ?_
 have m := St.start w0
 unfold d_slices_Contains_impl_Pair_impl_Pair at h
 refine wr (s_box (cs := [.int .i64 v5.fA, .int .i64 v5.fB]) m k rfl rfl rfl rfl rfl rfl fun b6 w8 a k m e hb7 => pN 1 k rfl fun a k => nn (wr (pN 1 k rfl fun a k => sv k rfl (r_ldB ta144 m 0 hb7 0 k rfl rfl rfl rfl rfl rfl) fun a k => oE h fun x9 hx10 h => cE k m call226 rfl rfl rfl (c_slices_Index_impl_Pair_impl_Pair fu _ (v5 : Pair) (Enc.rd_agr hp4 (m.a00 (Enc.rd_lt hp4))) hx10) fun w12 e a k m => pN 2 k rfl fun a k => nn (wp_ret (fS h k m rfl rfl)))))
theorem c_impl_Beside (fu : Nat) {w0 : World} (pairs1 : List Pair) (a5 : Int) (b6 : Int) {v2 : Value} {F3 : List Nat} (hp4 : rd w0 F3 [v2] pairs1) {r : Bool}
    (h : d_impl_Beside fu pairs1 a5 b6 = some r) :
    Calls Tryz.prog 192 #[v2, .int .i64 a5, .int .i64 b6] w0 fun e w => e = .returned (.bool (r)) ∧ Ext [] w0 w := by
 refine enter (vs := [_, _, _]) func192 rfl ntmps192 rfl fun a k => ?_
 have m := St.start w0
 unfold d_impl_Beside at h
 refine wr (pN 1 k rfl fun a k => nn (wr (pN 3 k rfl fun a k => sv k rfl (r_build bt144 k (ps := [(0, .tmp 8), (1, .tmp 9)]) rfl rfl rfl) fun a k => oE h fun x7 hx8 h => cE k m call211 rfl rfl rfl (c_slices_Contains_impl_Pair_impl_Pair fu _ (((⟨a5, b6⟩ : Pair)) : Pair) (Enc.rd_agr hp4 (m.a00 (Enc.rd_lt hp4))) hx8) fun w10 e a k m => pN 1 k rfl fun a k => nn (wp_ret (fS h k m rfl rfl)))))
theorem c_impl_TableOk (fu : Nat) {w0 : World} (pairs1 : List Pair) (classes5 : Int) {v2 : Value} {F3 : List Nat} (hp4 : rd w0 F3 [v2] pairs1) {r : Bool}
    (h : d_impl_TableOk fu pairs1 classes5 = some r) :
    Calls Tryz.prog 181 #[v2, .int .i64 classes5] w0 fun e w => e = .returned (.bool (r)) ∧ Ext [] w0 w := by
 refine enter (vs := [_, _]) func181 rfl ntmps181 rfl fun a k => ?_
 have m := St.start w0
 unfold d_impl_TableOk at h
 refine wr (pN 1 k rfl fun a k => nn (wp_seq (wr (pN 1 k rfl fun a k => oE h fun x6 hx7 h => cE k m call99 rfl rfl rfl (c_impl_in fu _ _ _  hx7) fun w9 e a k m => pN 1 k rfl fun a k => nn (cI h k rfl (fun hb10 h => ?_) fun hb10 h => ?_)))))
 · refine wr (pN 1 k rfl fun a k => nn (wp_ret (rt_then ?_)))
   refine fS h k m rfl rfl
 refine wp_skip (nm_then ?_)
 refine wp_seq (wr (pN 2 k rfl fun a k => nn (wp_block (c_loop (fun n a w => ∃ (x99 : Int), K 34 [(0, v2), (1, .int .i64 classes5), (10, .int .i64 classes5), (11, .int .i64 x99)] a ∧ St [] w0 w [] ∧ d_impl_TableOk_L2 fu pairs1 classes5 n x99 = some r) ?_ ?_ fu _ _ ?_))))
 · rintro a w ⟨_, _, _, h⟩
   exact nS h
 · rintro m100 a w98 ⟨x99, k, m, h⟩
   rw [d_impl_TableOk_L2_s] at h
   unfold d_impl_TableOk_L2_B at h
   refine wr (pN 1 k rfl fun a k => nn (wp_seq (cI h k rfl (fun hb101 h => ?_) fun hb101 h => ?_)))
   · refine wp_skip (nm_then ?_)
     refine wp_seq (wp_block (wr (pN 2 k rfl fun a k => nn (wp_seq (wr (pN 3 k rfl fun a k => oE h fun x102 hx103 h => cE k m call192 rfl rfl rfl (c_impl_Beside fu _ _ _ (Enc.rd_agr hp4 (m.a00 (Enc.rd_lt hp4))) hx103) fun w105 e a k m => pN 1 k rfl fun a k => nn (cI h k rfl (fun hb106 h => ?_) fun hb106 h => ?_)))))))
     · refine wr (pN 1 k rfl fun a k => nn (wp_ret (rt_then (rt_block (rt_then (rt_then (rt_block (rt_then ?_))))))))
       refine fS h k m rfl rfl
     refine wp_skip (nm_then ?_)
     refine wr (pN 2 k rfl fun a k => nn (wp_block (c_loop (fun n a w => ∃ (x131 : Int), K 34 [(0, v2), (1, .int .i64 classes5), (5, .int .i64 x99), (10, .int .i64 classes5), (11, .int .i64 x99), (19, .int .i64 classes5), (20, .int .i64 x131)] a ∧ St [] w0 w [] ∧ d_impl_TableOk_L1 fu (d_impl_TableOk_L2 fu pairs1 classes5 m100) pairs1 classes5 x99 n x131 = some r) ?_ ?_ fu _ _ ?_)))
     · rintro a w ⟨_, _, _, h⟩
       exact nS h
     · rintro m132 a w130 ⟨x131, k, m, h⟩
       rw [d_impl_TableOk_L1_s] at h
       unfold d_impl_TableOk_L1_B at h
       refine wr (pN 1 k rfl fun a k => nn (wp_seq (cI h k rfl (fun hb133 h => ?_) fun hb133 h => ?_)))
       · refine wp_skip (nm_then ?_)
         refine wp_seq (wp_block (wr (pN 2 k rfl fun a k => nn (wr (pN 3 k rfl fun a k => oE h fun x134 hx135 h => cE k m call192 rfl rfl rfl (c_impl_Beside fu _ _ _ (Enc.rd_agr hp4 (m.a00 (Enc.rd_lt hp4))) hx135) fun w137 e a k m => pN 3 k rfl fun a k => oE h fun x138 hx139 h => cE k m call192 rfl rfl rfl (c_impl_Beside fu _ _ _ (Enc.rd_agr hp4 (m.a00 (Enc.rd_lt hp4))) hx139) fun w141 e a k m => sv k rfl (r_neb k underlying4 rfl rfl rfl) fun a k => nn (cI h k rfl (fun hb142 h => ?_) fun hb142 h => ?_))))))
         · refine wr (pN 1 k rfl fun a k => nn (wp_ret (rt_block (rt_then (rt_then (rt_block (rt_block (rt_then (rt_then (rt_block (rt_then ?_)))))))))))
           refine fS h k m rfl rfl
         refine wp_skip (nm_block (nm_then ?_))
         refine wp_region_lit (pN 2 k rfl fun a k => nn ?_)
         exact ⟨w64 (x131 + 1), k.keep [0, 1, 5, 10, 11, 19, 20] rfl, m.sel [] rfl (by decide), h⟩
       refine wp_exit (ex_then (ex_then (ex_same (nm_block (nm_then ?_)))))
       refine wp_region_lit (pN 2 k rfl fun a k => nn ?_)
       exact ⟨w64 (x99 + 1), k.keep [0, 1, 10, 11] rfl, m.sel [] rfl (by decide), h⟩
     exact ⟨0, k.keep [0, 1, 5, 10, 11, 19, 20] rfl, m.sel [] rfl (by decide), h⟩
   refine wp_exit (ex_then (ex_then (ex_same (nm_then ?_))))
   refine wr (pN 1 k rfl fun a k => nn (wp_ret (fS h k m rfl rfl)))
 exact ⟨0, k.keep [0, 1, 10, 11] rfl, m.sel [] rfl (by decide), h⟩
theorem c_slices_Sort_int_int (fu : Nat) {w0 : World} (x1 : List Int) {v2 : Value} {F3 : List Nat} (hp4 : ow w0 F3 [v2] x1) {r : List Int}
    (h : d_slices_Sort_int_int fu x1 = some r) :
    Calls Tryz.prog 164 #[v2] w0 fun e w => ∃ H : List Nat, e = .returned (.tuple #[]) ∧ Ext F3 w0 w ∧ (∀ b ∈ H, b ∈ F3 ∨ w0.heap.size ≤ b) ∧ ow w H [v2] r :=
  (c_sortInt (fun blk off cap zs w => Tryz.slices_Sort_int blk off cap zs w) (fun p cap w => Tryz.slices_Sort_int_none p cap w) x1 hp4 h).mono fun e w ⟨h1, h2, h3⟩ => ⟨_, h1, h2, fun b hb => .inl hb, h3⟩

theorem c_impl_Fits (fu : Nat) {w0 : World} (x1 : Item) (t2 : Typ)  {r : Bool}
    (h : d_impl_Fits fu x1 t2 = some r) :
    Calls Tryz.prog 183 #[.agg (Flat.e (x1)).toArray, .agg (Flat.e (t2)).toArray] w0 fun e w => e = .returned (.bool (r)) ∧ Ext [] w0 w := by
 refine enter (vs := [_, _]) func183 rfl ntmps183 rfl fun a k => ?_
 have m := St.start w0
 unfold d_impl_Fits at h
 refine wr (s_box (cs := [.int .i64 x1.fId, .int .i64 x1.fW, .int .i64 x1.fH, .int .i64 x1.fD, .int .i64 x1.fGram, .int .i64 x1.fClass, .int .i64 x1.fCount]) m k rfl rfl rfl rfl rfl rfl fun b3 w5 a k m e hb4 => s_box (cs := [.int .i64 t2.fId, .int .i64 t2.fW, .int .i64 t2.fH, .int .i64 t2.fD, .int .i64 t2.fTare, .int .i64 t2.fGram, .int .i64 t2.fCost]) m k rfl rfl rfl rfl rfl rfl fun b6 w8 a k m e hb7 => pN 1 k rfl fun a k => nn ?_)
 refine c_cut (fun a w => ∃ (a39 : List Int) (v40 : Value) (F41 : List Nat) (u42 : World) (b44 : List Int) (v45 : Value) (F46 : List Nat) (u47 : World), K 57 [(2, .pointer (some (⟨b3, 0, none⟩ : Addr))), (3, .pointer (some (⟨b6, 0, none⟩ : Addr))), (5, v40), (6, v45)] a ∧ St [] w0 w [([b3], w5), ([b6], w8), (F41, u42), (F46, u47)] ∧ ow u42 F41 [v40] a39 ∧ ow u47 F46 [v45] b44 ∧ d_impl_Fits_J1 fu x1 t2 a39 b44 = some r) ?_ ?_
 · rintro a w38 ⟨a39, v40, F41, u42, b44, v45, F46, u47, k, m, hf43, hf48, h⟩
   unfold d_impl_Fits_J1 at h
   refine wr (pN 1 k rfl fun a k => oE h fun x49 hx50 h => s_call k call164 rfl rfl rfl rfl rfl (c_slices_Sort_int_int fu _ (Enc.ow_agr hf43 (m.a 2 rfl)) hx50) fun e51 w52 hR => ?_)
   obtain ⟨F55, rfl, e, hlo54, hf53⟩ := hR
   refine ⟨_, rfl, fun a k => ?_⟩
   have m := m.mut 2 rfl e _ (fun b hb => ⟨hlo54 b hb, Enc.rd_lt (Enc.ow_rd hf53) b hb⟩) (Enc.ow_nd hf53)
   refine nn (wr (pN 1 k rfl fun a k => oE h fun x56 hx57 h => s_call k call164 rfl rfl rfl rfl rfl (c_slices_Sort_int_int fu _ (Enc.ow_agr hf48 (m.a 3 rfl)) hx57) fun e58 w59 hR => ?_))
   obtain ⟨F62, rfl, e, hlo61, hf60⟩ := hR
   refine ⟨_, rfl, fun a k => ?_⟩
   have m := m.mut 3 rfl e _ (fun b hb => ⟨hlo61 b hb, Enc.rd_lt (Enc.ow_rd hf60) b hb⟩) (Enc.ow_nd hf60)
   refine nn (wp_seq (d_go [] mixo m rfl fun w63 hMd => ?_))
   have m := hMd
   have s := Ext.refl ([] : List Nat) w63
   refine dp k 0 rfl (by kernel_rfl) rfl s (fun _ _ _ => id) rfl fun a k => oE h fun x64 hx65 h => dt k 1 rfl (by kernel_rfl) rfl s (fun _ _ _ => id) (fun w s => r_ixa (Enc.ow_rd hf53) hx65 k ts29 rfl rfl rfl) fun a k => dt k 2 rfl (by kernel_rfl) rfl s (fun _ _ _ => id) (fun w s => r_lde1 (Enc.ow_rd hf53) ((hMd.step s).a 2 rfl) hx65 0 t13 k rfl rfl rfl rfl) fun a k => dp k 3 rfl (by kernel_rfl) rfl s (fun _ _ _ => id) rfl fun a k => oE h fun x66 hx67 h => dt k 4 rfl (by kernel_rfl) rfl s (fun _ _ _ => id) (fun w s => r_ixa (Enc.ow_rd hf60) hx67 k ts29 rfl rfl rfl) fun a k => dt k 5 rfl (by kernel_rfl) rfl s (fun _ _ _ => id) (fun w s => r_lde1 (Enc.ow_rd hf60) ((hMd.step s).a 3 rfl) hx67 0 t13 k rfl rfl rfl rfl) fun a k => dp k 6 rfl (by kernel_rfl) rfl s (fun _ _ _ => id) rfl fun a k => ?_
   refine dp k 7 rfl (by kernel_rfl) rfl s (fun _ _ _ => id) rfl fun a k => bsplit (decide (x64 ≤ x66)) (fun hb68 => ?_) (fun hb68 => ?_)
   · have h := bif_t hb68 h
     refine rB k 32 rfl hb68 fun k => dp k 8 rfl (by kernel_rfl) rfl s (fun _ _ _ => id) rfl fun a k => oE h fun x69 hx70 h => dt k 9 rfl (by kernel_rfl) rfl s (fun _ _ _ => id) (fun w s => r_ixa (Enc.ow_rd hf53) hx70 k ts29 rfl rfl rfl) fun a k => dt k 10 rfl (by kernel_rfl) rfl s (fun _ _ _ => id) (fun w s => r_lde1 (Enc.ow_rd hf53) ((hMd.step s).a 2 rfl) hx70 0 t13 k rfl rfl rfl rfl) fun a k => dp k 11 rfl (by kernel_rfl) rfl s (fun _ _ _ => id) rfl fun a k => oE h fun x71 hx72 h => dt k 12 rfl (by kernel_rfl) rfl s (fun _ _ _ => id) (fun w s => r_ixa (Enc.ow_rd hf60) hx72 k ts29 rfl rfl rfl) fun a k => dt k 13 rfl (by kernel_rfl) rfl s (fun _ _ _ => id) (fun w s => r_lde1 (Enc.ow_rd hf60) ((hMd.step s).a 3 rfl) hx72 0 t13 k rfl rfl rfl rfl) fun a k => dp k 14 rfl (by kernel_rfl) rfl s (fun _ _ _ => id) rfl fun a k => ?_
     refine dp k 15 rfl (by kernel_rfl) rfl s (fun _ _ _ => id) rfl fun a k => dp k 16 rfl (by kernel_rfl) rfl s (fun _ _ _ => id) rfl fun a k => bsplit (decide (x69 ≤ x71)) (fun hb73 => ?_) (fun hb73 => ?_)
     · have h := bif_t hb73 h
       refine rB k 41 rfl hb73 fun k => dp k 17 rfl (by kernel_rfl) rfl s (fun _ _ _ => id) rfl fun a k => oE h fun x74 hx75 h => dt k 18 rfl (by kernel_rfl) rfl s (fun _ _ _ => id) (fun w s => r_ixa (Enc.ow_rd hf53) hx75 k ts29 rfl rfl rfl) fun a k => dt k 19 rfl (by kernel_rfl) rfl s (fun _ _ _ => id) (fun w s => r_lde1 (Enc.ow_rd hf53) ((hMd.step s).a 2 rfl) hx75 0 t13 k rfl rfl rfl rfl) fun a k => dp k 20 rfl (by kernel_rfl) rfl s (fun _ _ _ => id) rfl fun a k => oE h fun x76 hx77 h => dt k 21 rfl (by kernel_rfl) rfl s (fun _ _ _ => id) (fun w s => r_ixa (Enc.ow_rd hf60) hx77 k ts29 rfl rfl rfl) fun a k => dt k 22 rfl (by kernel_rfl) rfl s (fun _ _ _ => id) (fun w s => r_lde1 (Enc.ow_rd hf60) ((hMd.step s).a 3 rfl) hx77 0 t13 k rfl rfl rfl rfl) fun a k => dp k 23 rfl (by kernel_rfl) rfl s (fun _ _ _ => id) rfl fun a k => ?_
       refine dp k 24 rfl (by kernel_rfl) rfl s (fun _ _ _ => id) rfl fun a k => dp k 25 rfl (by kernel_rfl) rfl s (fun _ _ _ => id) rfl fun a k => bsplit (decide (x74 ≤ x76)) (fun hb78 => ?_) (fun hb78 => ?_)
       · have h := bif_t hb78 h
         refine rB k 50 rfl hb78 fun k => dt k 26 rfl (by kernel_rfl) rfl s (fun _ _ _ => id) (fun w s => r_fa fa120_4 k rfl rfl) fun a k => dt k 27 rfl (by kernel_rfl) rfl s (fun _ _ _ => id) (fun w s => r_ld1 t13 (r := []) (hb4.at ((hMd.step s).a 0 rfl) 4 1 rfl rfl rfl) k rfl rfl) fun a k => dt k 28 rfl (by kernel_rfl) rfl s (fun _ _ _ => id) (fun w s => r_fa fa92_5 k rfl rfl) fun a k => dt k 29 rfl (by kernel_rfl) rfl s (fun _ _ _ => id) (fun w s => r_ld1 t13 (r := []) (hb7.at ((hMd.step s).a 1 rfl) 5 1 rfl rfl rfl) k rfl rfl) fun a k => dp k 30 rfl (by kernel_rfl) rfl s (fun _ _ _ => id) rfl fun a k => dp k 31 rfl (by kernel_rfl) rfl s (fun _ _ _ => id) rfl fun a k => dp k 32 rfl (by kernel_rfl) rfl s (fun _ _ _ => id) rfl fun a k => d_done (by kernel_rfl) ?_
         have k := k.keep [4] rfl
         refine (nm_then ?_)
         refine wp_ret (fS h k m rfl rfl)
       have h := bif_f hb78 h
       refine rB k 50 rfl hb78 fun k => ds k 26 rfl (by kernel_rfl) rfl s (fun _ _ _ => id) fun a k => ds k 27 rfl (by kernel_rfl) rfl s (fun _ _ _ => id) fun a k => ds k 28 rfl (by kernel_rfl) rfl s (fun _ _ _ => id) fun a k => ds k 29 rfl (by kernel_rfl) rfl s (fun _ _ _ => id) fun a k => ds k 30 rfl (by kernel_rfl) rfl s (fun _ _ _ => id) fun a k => dp k 31 rfl (by kernel_rfl) rfl s (fun _ _ _ => id) rfl fun a k => dp k 32 rfl (by kernel_rfl) rfl s (fun _ _ _ => id) rfl fun a k => d_done (by kernel_rfl) ?_
       have k := k.keep [4] rfl
       refine (nm_then ?_)
       refine wp_ret (fS h k m rfl rfl)
     have h := bif_f hb73 h
     refine rB k 41 rfl hb73 fun k => ds k 17 rfl (by kernel_rfl) rfl s (fun _ _ _ => id) fun a k => ds k 18 rfl (by kernel_rfl) rfl s (fun _ _ _ => id) fun a k => ds k 19 rfl (by kernel_rfl) rfl s (fun _ _ _ => id) fun a k => ds k 20 rfl (by kernel_rfl) rfl s (fun _ _ _ => id) fun a k => ds k 21 rfl (by kernel_rfl) rfl s (fun _ _ _ => id) fun a k => ds k 22 rfl (by kernel_rfl) rfl s (fun _ _ _ => id) fun a k => ds k 23 rfl (by kernel_rfl) rfl s (fun _ _ _ => id) fun a k => dp k 24 rfl (by kernel_rfl) rfl s (fun _ _ _ => id) rfl fun a k => dp k 25 rfl (by kernel_rfl) rfl s (fun _ _ _ => id) rfl fun a k => ds k 26 rfl (by kernel_rfl) rfl s (fun _ _ _ => id) fun a k => ds k 27 rfl (by kernel_rfl) rfl s (fun _ _ _ => id) fun a k => ds k 28 rfl (by kernel_rfl) rfl s (fun _ _ _ => id) fun a k => ?_
     refine ds k 29 rfl (by kernel_rfl) rfl s (fun _ _ _ => id) fun a k => ds k 30 rfl (by kernel_rfl) rfl s (fun _ _ _ => id) fun a k => dp k 31 rfl (by kernel_rfl) rfl s (fun _ _ _ => id) rfl fun a k => dp k 32 rfl (by kernel_rfl) rfl s (fun _ _ _ => id) rfl fun a k => d_done (by kernel_rfl) ?_
     have k := k.keep [4] rfl
     refine (nm_then ?_)
     refine wp_ret (fS h k m rfl rfl)
   have h := bif_f hb68 h
   refine rB k 32 rfl hb68 fun k => ds k 8 rfl (by kernel_rfl) rfl s (fun _ _ _ => id) fun a k => ds k 9 rfl (by kernel_rfl) rfl s (fun _ _ _ => id) fun a k => ds k 10 rfl (by kernel_rfl) rfl s (fun _ _ _ => id) fun a k => ds k 11 rfl (by kernel_rfl) rfl s (fun _ _ _ => id) fun a k => ds k 12 rfl (by kernel_rfl) rfl s (fun _ _ _ => id) fun a k => ds k 13 rfl (by kernel_rfl) rfl s (fun _ _ _ => id) fun a k => ds k 14 rfl (by kernel_rfl) rfl s (fun _ _ _ => id) fun a k => dp k 15 rfl (by kernel_rfl) rfl s (fun _ _ _ => id) rfl fun a k => dp k 16 rfl (by kernel_rfl) rfl s (fun _ _ _ => id) rfl fun a k => ds k 17 rfl (by kernel_rfl) rfl s (fun _ _ _ => id) fun a k => ds k 18 rfl (by kernel_rfl) rfl s (fun _ _ _ => id) fun a k => ds k 19 rfl (by kernel_rfl) rfl s (fun _ _ _ => id) fun a k => ?_
   refine ds k 20 rfl (by kernel_rfl) rfl s (fun _ _ _ => id) fun a k => ds k 21 rfl (by kernel_rfl) rfl s (fun _ _ _ => id) fun a k => ds k 22 rfl (by kernel_rfl) rfl s (fun _ _ _ => id) fun a k => ds k 23 rfl (by kernel_rfl) rfl s (fun _ _ _ => id) fun a k => dp k 24 rfl (by kernel_rfl) rfl s (fun _ _ _ => id) rfl fun a k => dp k 25 rfl (by kernel_rfl) rfl s (fun _ _ _ => id) rfl fun a k => ds k 26 rfl (by kernel_rfl) rfl s (fun _ _ _ => id) fun a k => ds k 27 rfl (by kernel_rfl) rfl s (fun _ _ _ => id) fun a k => ds k 28 rfl (by kernel_rfl) rfl s (fun _ _ _ => id) fun a k => ds k 29 rfl (by kernel_rfl) rfl s (fun _ _ _ => id) fun a k => ds k 30 rfl (by kernel_rfl) rfl s (fun _ _ _ => id) fun a k => dp k 31 rfl (by kernel_rfl) rfl s (fun _ _ _ => id) rfl fun a k => dp k 32 rfl (by kernel_rfl) rfl s (fun _ _ _ => id) rfl fun a k => ?_
   refine d_done (by kernel_rfl) ?_
   have k := k.keep [4] rfl
   refine (nm_then ?_)
   refine wp_ret (fS h k m rfl rfl)
 refine d_go [] mixo m rfl fun w79 hMd => ?_
 have m := hMd
 have s := Ext.refl ([] : List Nat) w79
 refine dt k 0 rfl (by kernel_rfl) rfl s (fun _ _ _ => id) (fun w s => r_fa fa120_1 k rfl rfl) fun a k => dt k 1 rfl (by kernel_rfl) rfl s (fun _ _ _ => id) (fun w s => r_ld1 t13 (r := []) (hb4.at ((hMd.step s).a 1 rfl) 1 1 rfl rfl rfl) k rfl rfl) fun a k => dt k 2 rfl (by kernel_rfl) rfl s (fun _ _ _ => id) (fun w s => r_fa fa120_2 k rfl rfl) fun a k => dt k 3 rfl (by kernel_rfl) rfl s (fun _ _ _ => id) (fun w s => r_ld1 t13 (r := []) (hb4.at ((hMd.step s).a 1 rfl) 2 1 rfl rfl rfl) k rfl rfl) fun a k => dt k 4 rfl (by kernel_rfl) rfl s (fun _ _ _ => id) (fun w s => r_fa fa120_3 k rfl rfl) fun a k => dt k 5 rfl (by kernel_rfl) rfl s (fun _ _ _ => id) (fun w s => r_ld1 t13 (r := []) (hb4.at ((hMd.step s).a 1 rfl) 3 1 rfl rfl rfl) k rfl rfl) fun a k => ?_
 refine dt k 7 rfl (by kernel_rfl) rfl s (fun _ _ _ => id) (fun w s => r_fa fa92_1 k rfl rfl) fun a k => dt k 8 rfl (by kernel_rfl) rfl s (fun _ _ _ => id) (fun w s => r_ld1 t13 (r := []) (hb7.at ((hMd.step s).a 0 rfl) 1 1 rfl rfl rfl) k rfl rfl) fun a k => dt k 9 rfl (by kernel_rfl) rfl s (fun _ _ _ => id) (fun w s => r_fa fa92_2 k rfl rfl) fun a k => dt k 10 rfl (by kernel_rfl) rfl s (fun _ _ _ => id) (fun w s => r_ld1 t13 (r := []) (hb7.at ((hMd.step s).a 0 rfl) 2 1 rfl rfl rfl) k rfl rfl) fun a k => dt k 11 rfl (by kernel_rfl) rfl s (fun _ _ _ => id) (fun w s => r_fa fa92_3 k rfl rfl) fun a k => dt k 12 rfl (by kernel_rfl) rfl s (fun _ _ _ => id) (fun w s => r_ld1 t13 (r := []) (hb7.at ((hMd.step s).a 0 rfl) 3 1 rfl rfl rfl) k rfl rfl) fun a k => d_two 6 13 (by kernel_rfl) rfl rfl ?_ ?_ 
 · refine s_bsN (cs := [.int .i64 x1.fW, .int .i64 x1.fH, .int .i64 x1.fD]) (ps := [(0, .tmp 8), (1, .tmp 10), (2, .tmp 12)]) te29 m k rfl rfl rfl rfl rfl rfl rfl (by decide) rfl (by exact (List.forall_mem_cons.2 ⟨rfl, (List.forall_mem_cons.2 ⟨rfl, (List.forall_mem_cons.2 ⟨rfl, (List.forall_mem_nil _)⟩)⟩)⟩)) fun g80 w81 e83 a k m e hb82 hgn84 => ?_
   have hlo86 := lo1 (Nat.le_trans s.size hgn84)
   have hf85 := ow_bx hb82 ([x1.fW, x1.fH, x1.fD] : List Int) rfl rfl rfl
   have s := s.trans e (by simp)
   refine wpList_nil ⟨s, ?_⟩
   refine dp k 14 rfl (by kernel_rfl) rfl s (fun _ _ _ => id) rfl fun a k => d_one 13 (by kernel_rfl) rfl (s_bsN (cs := [.int .i64 t2.fW, .int .i64 t2.fH, .int .i64 t2.fD]) (ps := [(0, .tmp 15), (1, .tmp 17), (2, .tmp 19)]) te29 m k rfl rfl rfl rfl rfl rfl rfl (by decide) rfl (by exact (List.forall_mem_cons.2 ⟨rfl, (List.forall_mem_cons.2 ⟨rfl, (List.forall_mem_cons.2 ⟨rfl, (List.forall_mem_nil _)⟩)⟩)⟩)) fun g87 w88 e90 a k m e hb89 hgn91 => ?_)
   have hlo93 := lo1 (Nat.le_trans s.size hgn91)
   have hf92 := ow_bx hb89 ([t2.fW, t2.fH, t2.fD] : List Int) rfl rfl rfl
   have s := s.trans e (by simp)
   refine wpList_nil ⟨s, ?_⟩
   refine dp k 15 rfl (by kernel_rfl) rfl s (fun _ _ _ => id) rfl fun a k => d_done (by kernel_rfl) ((nm_then ?_))
   exact ⟨([x1.fW, x1.fH, x1.fD] : List Int), (.slice (some ⟨g80, 0, none⟩) 3 3), [g80], w81, ([t2.fW, t2.fH, t2.fD] : List Int), (.slice (some ⟨g87, 0, none⟩) 3 3), [g87], w88, k.keep [2, 3, 5, 6] rfl, m.sel [3, 2, 1, 0] rfl (by decide), hf85, hf92, h⟩
 refine s_bsN (cs := [.int .i64 t2.fW, .int .i64 t2.fH, .int .i64 t2.fD]) (ps := [(0, .tmp 15), (1, .tmp 17), (2, .tmp 19)]) te29 m k rfl rfl rfl rfl rfl rfl rfl (by decide) rfl (by exact (List.forall_mem_cons.2 ⟨rfl, (List.forall_mem_cons.2 ⟨rfl, (List.forall_mem_cons.2 ⟨rfl, (List.forall_mem_nil _)⟩)⟩)⟩)) fun g94 w95 e97 a k m e hb96 hgn98 => ?_
 have hlo100 := lo1 (Nat.le_trans s.size hgn98)
 have hf99 := ow_bx hb96 ([t2.fW, t2.fH, t2.fD] : List Int) rfl rfl rfl
 have s := s.trans e (by simp)
 refine wpList_nil ⟨s, ?_⟩
 refine d_one 6 (by kernel_rfl) rfl (s_bsN (cs := [.int .i64 x1.fW, .int .i64 x1.fH, .int .i64 x1.fD]) (ps := [(0, .tmp 8), (1, .tmp 10), (2, .tmp 12)]) te29 m k rfl rfl rfl rfl rfl rfl rfl (by decide) rfl (by exact (List.forall_mem_cons.2 ⟨rfl, (List.forall_mem_cons.2 ⟨rfl, (List.forall_mem_cons.2 ⟨rfl, (List.forall_mem_nil _)⟩)⟩)⟩)) fun g101 w102 e104 a k m e hb103 hgn105 => ?_)
 have hlo107 := lo1 (Nat.le_trans s.size hgn105)
 have hf106 := ow_bx hb103 ([x1.fW, x1.fH, x1.fD] : List Int) rfl rfl rfl
 have s := s.trans e (by simp)
 refine wpList_nil ⟨s, ?_⟩
 refine dp k 14 rfl (by kernel_rfl) rfl s (fun _ _ _ => id) rfl fun a k => dp k 15 rfl (by kernel_rfl) rfl s (fun _ _ _ => id) rfl fun a k => d_done (by kernel_rfl) ((nm_then ?_))
 exact ⟨([x1.fW, x1.fH, x1.fD] : List Int), (.slice (some ⟨g101, 0, none⟩) 3 3), [g101], w102, ([t2.fW, t2.fH, t2.fD] : List Int), (.slice (some ⟨g94, 0, none⟩) 3 3), [g94], w95, k.keep [2, 3, 5, 6] rfl, m.sel [3, 2, 0, 1] rfl (by decide), hf106, hf99, h⟩
theorem c_impl_Class_1 (fu : Nat) {w0 : World} (x1 : Item) (x2 : Typ) {b3 : Nat} (hp4 : bx w0 b3 [.int .i64 x2.fId, .int .i64 x2.fW, .int .i64 x2.fH, .int .i64 x2.fD, .int .i64 x2.fTare, .int .i64 x2.fGram, .int .i64 x2.fCost] 92) {r : Bool}
    (h : d_impl_Class_1 fu x1 x2 = some r) :
    Calls Tryz.prog 182 #[.agg (Flat.e (x1)).toArray, .pointer (some (⟨b3, 0, none⟩ : Addr))] w0 fun e w => e = .returned (.bool (r)) ∧ Ext [] w0 w := by
 refine enter (vs := [_, _]) func182 rfl ntmps182 rfl fun a k => ?_
 have m := St.start w0
 unfold d_impl_Class_1 at h
 refine wr (s_box (cs := [.int .i64 x1.fId, .int .i64 x1.fW, .int .i64 x1.fH, .int .i64 x1.fD, .int .i64 x1.fGram, .int .i64 x1.fClass, .int .i64 x1.fCount]) m k rfl rfl rfl rfl rfl rfl fun b5 w7 a k m e hb6 => pN 1 k rfl fun a k => nn (wr (sv k rfl (r_ldB ta120 m 0 hb6 0 k rfl rfl rfl rfl rfl rfl) fun a k => sv k rfl (r_ldA ta92 (hp4.at (m.a00 hp4.lt1) 0 7 rfl rfl rfl) rfl k rfl rfl) fun a k => oE h fun x8 hx9 h => cE k m call183 rfl rfl rfl (c_impl_Fits fu (x1 : Item) (x2 : Typ)  hx9) fun w11 e a k m => pN 2 k rfl fun a k => nn (wp_ret (fS h k m rfl rfl)))))
theorem c_impl_Class_2 (fu : Nat) {w0 : World} (t1 : Typ) (x2 : Pallet) {b3 : Nat} (hp4 : bx w0 b3 [.int .i64 x2.fW, .int .i64 x2.fD, .int .i64 x2.fH, .int .i64 x2.fGram] 35) {r : Bool}
    (h : d_impl_Class_2 fu t1 x2 = some r) :
    Calls Tryz.prog 185 #[.agg (Flat.e (t1)).toArray, .pointer (some (⟨b3, 0, none⟩ : Addr))] w0 fun e w => e = .returned (.bool (r)) ∧ Ext [] w0 w := by
 refine enter (vs := [_, _]) func185 rfl ntmps185 rfl fun a k => ?_
 have m := St.start w0
 unfold d_impl_Class_2 at h
 refine wr (s_box (cs := [.int .i64 t1.fId, .int .i64 t1.fW, .int .i64 t1.fH, .int .i64 t1.fD, .int .i64 t1.fTare, .int .i64 t1.fGram, .int .i64 t1.fCost]) m k rfl rfl rfl rfl rfl rfl fun b5 w7 a k m e hb6 => pN 1 k rfl fun a k => nn (wr (sv k rfl (r_fa fa92_1 k rfl rfl) fun a k => sv k rfl (r_ldb t13 m 0 hb6 1 k rfl rfl rfl rfl rfl) fun a k => sv k rfl (r_fa fa35_0 k rfl rfl) fun a k => sv k rfl (r_ld1 t13 (r := []) (hp4.at (m.a00 hp4.lt1) 0 1 rfl rfl rfl) k rfl rfl) fun a k => pN 2 k rfl fun a k => bsplit (decide (t1.fW > x2.fW)) (fun hb8 => ?_) (fun hb8 => ?_))))
 · have h := bif_t hb8 h
   refine rB k 9 rfl hb8 fun k => pN 24 k rfl fun a k => ?_
   have k := k.keep [3] rfl
   refine nn (wp_ret (fS h k m rfl rfl))
 have h := bif_f hb8 h
 refine rB k 9 rfl hb8 fun k => sv k rfl (r_fa fa92_3 k rfl rfl) fun a k => sv k rfl (r_ldb t13 m 0 hb6 3 k rfl rfl rfl rfl rfl) fun a k => sv k rfl (r_fa fa35_1 k rfl rfl) fun a k => sv k rfl (r_ld1 t13 (r := []) (hp4.at (m.a00 hp4.lt1) 1 1 rfl rfl rfl) k rfl rfl) fun a k => pN 3 k rfl fun a k => bsplit (decide (t1.fD > x2.fD)) (fun hb9 => ?_) (fun hb9 => ?_)
 · have h := bif_t hb9 h
   refine rB k 16 rfl hb9 fun k => pN 17 k rfl fun a k => ?_
   have k := k.keep [3] rfl
   refine nn (wp_ret (fS h k m rfl rfl))
 have h := bif_f hb9 h
 refine rB k 16 rfl hb9 fun k => sv k rfl (r_fa fa92_2 k rfl rfl) fun a k => sv k rfl (r_ldb t13 m 0 hb6 2 k rfl rfl rfl rfl rfl) fun a k => sv k rfl (r_fa fa35_2 k rfl rfl) fun a k => sv k rfl (r_ld1 t13 (r := []) (hp4.at (m.a00 hp4.lt1) 2 1 rfl rfl rfl) k rfl rfl) fun a k => pN 3 k rfl fun a k => bsplit (decide (t1.fH > x2.fH)) (fun hb10 => ?_) (fun hb10 => ?_)
 · have h := bif_t hb10 h
   refine rB k 23 rfl hb10 fun k => pN 10 k rfl fun a k => ?_
   have k := k.keep [3] rfl
   refine nn (wp_ret (fS h k m rfl rfl))
 have h := bif_f hb10 h
 refine rB k 23 rfl hb10 fun k => sv k rfl (r_fa fa92_4 k rfl rfl) fun a k => sv k rfl (r_ldb t13 m 0 hb6 4 k rfl rfl rfl rfl rfl) fun a k => sv k rfl (r_fa fa92_5 k rfl rfl) fun a k => sv k rfl (r_ldb t13 m 0 hb6 5 k rfl rfl rfl rfl rfl) fun a k => pN 1 k rfl fun a k => sv k rfl (r_fa fa35_3 k rfl rfl) fun a k => sv k rfl (r_ld1 t13 (r := []) (hp4.at (m.a00 hp4.lt1) 3 1 rfl rfl rfl) k rfl rfl) fun a k => pN 3 k rfl fun a k => ?_
 have k := k.keep [3] rfl
 refine nn (wp_ret (fS h k m rfl rfl))
theorem c_impl_Class (fu : Nat) {w0 : World} (r1 : Request) {cs2 : List Value} {F3 : List Nat} (hp4 : rd w0 F3 cs2 r1) {r : Int}
    (h : d_impl_Class fu r1 = some r) :
    Calls Tryz.prog 142 #[.agg cs2.toArray] w0 fun e w => e = .returned (.int .i64 r) ∧ Ext [] w0 w := by
 refine enter (vs := [_]) func142 rfl ntmps142 rfl fun a k => ?_
 have m := St.start w0
 obtain ⟨v5, F6, v7, F8, v9, F10, rfl, rfl, hf11, hf12, hf13⟩ := hp4
 unfold d_impl_Class at h
 refine wr (s_box (cs := [.int .i64 r1.fWay, .int .i64 r1.fPallet.fW, .int .i64 r1.fPallet.fD, .int .i64 r1.fPallet.fH, .int .i64 r1.fPallet.fGram, .int .i64 r1.fClasses, v5, v7, .int .i64 r1.fMaster, v9]) m k rfl rfl rfl rfl rfl rfl fun b14 w16 a k m e hb15 => pN 1 k rfl fun a k => nn (wr (sv k rfl (r_ldB ta40 m 0 hb15 0 k rfl rfl rfl rfl rfl rfl) fun a k => oE h fun x17 hx18 h => cE k m call148 rfl rfl rfl (c_impl_MasterOf fu _ (show rd _ _ [.int .i64 r1.fWay, .int .i64 r1.fPallet.fW, .int .i64 r1.fPallet.fD, .int .i64 r1.fPallet.fH, .int .i64 r1.fPallet.fGram, .int .i64 r1.fClasses, v5, v7, .int .i64 r1.fMaster, v9] (r1 : Request) from ⟨_, _, _, _, _, _, rfl, rfl, (Enc.rd_agr hf11 (m.a00 (Enc.rd_lt hf11))), (Enc.rd_agr hf12 (m.a00 (Enc.rd_lt hf12))), (Enc.rd_agr hf13 (m.a00 (Enc.rd_lt hf13)))⟩) hx18) fun w20 e a k m => ?_)))
 refine pN 3 k rfl fun a k => s_alloc (cs := [.int .i64 0, .int .i64 0, .int .i64 0, .int .i64 0, .int .i64 0, .int .i64 0, .int .i64 0]) m k zeroValue92 rfl rfl rfl rfl rfl fun b21 w23 a k m e hb22 => s_stb (cs' := [.int .i64 x17.1.fId, .int .i64 x17.1.fW, .int .i64 x17.1.fH, .int .i64 x17.1.fD, .int .i64 x17.1.fTare, .int .i64 x17.1.fGram, .int .i64 x17.1.fCost]) sizeOf92 m 0 hb22 0 k rfl rfl rfl rfl rfl rfl rfl rfl rfl rfl rfl fun w24 a k e m hb25 => pN 1 k rfl fun a k => nn (wr (sv k rfl (r_fa fa40_1 k rfl rfl) fun a k => sv k rfl (r_ldB ta35 m 1 hb15 1 k rfl rfl rfl rfl rfl rfl) fun a k => s_alloc (cs := [.int .i64 0, .int .i64 0, .int .i64 0, .int .i64 0]) m k zeroValue35 rfl rfl rfl rfl rfl fun b26 w28 a k m e hb27 => ?_))
 refine s_stb (cs' := [.int .i64 r1.fPallet.fW, .int .i64 r1.fPallet.fD, .int .i64 r1.fPallet.fH, .int .i64 r1.fPallet.fGram]) sizeOf35 m 0 hb27 0 k rfl rfl rfl rfl rfl rfl rfl rfl rfl rfl rfl fun w29 a k e m hb30 => nn (wp_seq (wp_block (wr (sv k rfl (r_ldB ta40 m 2 hb15 0 k rfl rfl rfl rfl rfl rfl) fun a k => oE h fun x31 hx32 h => cE k m call179 rfl rfl rfl (c_impl_BoundsOk fu _ (show rd _ _ [.int .i64 r1.fWay, .int .i64 r1.fPallet.fW, .int .i64 r1.fPallet.fD, .int .i64 r1.fPallet.fH, .int .i64 r1.fPallet.fGram, .int .i64 r1.fClasses, v5, v7, .int .i64 r1.fMaster, v9] (r1 : Request) from ⟨_, _, _, _, _, _, rfl, rfl, (Enc.rd_agr hf11 (m.a00 (Enc.rd_lt hf11))), (Enc.rd_agr hf12 (m.a00 (Enc.rd_lt hf12))), (Enc.rd_agr hf13 (m.a00 (Enc.rd_lt hf13)))⟩) hx32) fun w34 e a k m => pN 2 k rfl fun a k => nn ?_))))
 refine cI h k rfl (fun hb35 h => ?_) fun hb35 h => ?_
 · refine wr (pN 1 k rfl fun a k => nn (wp_ret (rt_block (rt_then ?_))))
   refine fS h k m rfl rfl
 refine wr (sv k rfl (r_ldB ta40 m 2 hb15 0 k rfl rfl rfl rfl rfl rfl) fun a k => oE h fun x36 hx37 h => cE k m call180 rfl rfl rfl (c_impl_namesOk fu _ (show rd _ _ [.int .i64 r1.fWay, .int .i64 r1.fPallet.fW, .int .i64 r1.fPallet.fD, .int .i64 r1.fPallet.fH, .int .i64 r1.fPallet.fGram, .int .i64 r1.fClasses, v5, v7, .int .i64 r1.fMaster, v9] (r1 : Request) from ⟨_, _, _, _, _, _, rfl, rfl, (Enc.rd_agr hf11 (m.a00 (Enc.rd_lt hf11))), (Enc.rd_agr hf12 (m.a00 (Enc.rd_lt hf12))), (Enc.rd_agr hf13 (m.a00 (Enc.rd_lt hf13)))⟩) hx37) fun w39 e a k m => pN 2 k rfl fun a k => nn (cI h k rfl (fun hb40 h => ?_) fun hb40 h => ?_))
 · refine wr (pN 1 k rfl fun a k => nn (wp_ret (rt_block (rt_then ?_))))
   refine fS h k m rfl rfl
 refine wr (sv k rfl (r_fa fa40_3 k rfl rfl) fun a k => sv k rfl (r_ldb t136 m 2 hb15 6 k rfl rfl rfl rfl rfl) fun a k => sv k rfl (r_fa fa40_2 k rfl rfl) fun a k => sv k rfl (r_ldb t13 m 2 hb15 5 k rfl rfl rfl rfl rfl) fun a k => oE h fun x41 hx42 h => cE k m call181 rfl rfl rfl (c_impl_TableOk fu _ _ (Enc.rd_agr hf11 (m.a00 (Enc.rd_lt hf11))) hx42) fun w44 e a k m => pN 2 k rfl fun a k => ?_)
 have k := k.keep [1, 3, 5, 21] rfl
 refine nn (cI h k rfl (fun hb45 h => ?_) fun hb45 h => ?_)
 · refine wr (pN 1 k rfl fun a k => nn (wp_ret (rt_block (rt_then ?_))))
   refine fS h k m rfl rfl
 refine wr (sv k rfl (r_fa fa40_6 k rfl rfl) fun a k => sv k rfl (r_ldb t138 m 2 hb15 9 k rfl rfl rfl rfl rfl) fun a k => pN 1 k rfl fun a k => oE h fun x49 hx50 h => cE k m call151 rfl rfl rfl (c_slices_ContainsFunc_impl_Item_impl_Item fu _ _ (Enc.rd_agr hf13 (m.a00 (Enc.rd_lt hf13))) ⟨182, [.pointer (some (⟨b21, 0, none⟩ : Addr))], rfl, call182, fun w y46 v47 r e hv48 hx => by subst hv48; have m := m.step e; exact c_impl_Class_1 fu _ _ (hb25.agr (m.a 1 rfl) (by simp)) hx⟩ hx50) fun w52 e a k m => pN 1 k rfl fun a k => nn (cI h k rfl (fun hb53 h => ?_) fun hb53 h => ?_))
 · refine wr (pN 1 k rfl fun a k => nn (wp_ret (rt_block (rt_then ?_))))
   refine fS h k m rfl rfl
 refine wr (sv k rfl (r_fa fa40_4 k rfl rfl) fun a k => sv k rfl (r_ldb t137 m 2 hb15 7 k rfl rfl rfl rfl rfl) fun a k => pN 1 k rfl fun a k => oE h fun x57 hx58 h => cE k m call184 rfl rfl rfl (c_slices_ContainsFunc_impl_Type_impl_Type fu _ _ (Enc.rd_agr hf12 (m.a00 (Enc.rd_lt hf12))) ⟨185, [.pointer (some (⟨b26, 0, none⟩ : Addr))], rfl, call185, fun w y54 v55 r e hv56 hx => by subst hv56; have m := m.step e; exact c_impl_Class_2 fu _ _ (hb30.agr (m.a 0 rfl) (by simp)) hx⟩ hx58) fun w60 e a k m => pN 1 k rfl fun a k => nn (cI h k rfl (fun hb61 h => ?_) fun hb61 h => ?_))
 · refine wr (pN 1 k rfl fun a k => nn (wp_ret (rt_block (rt_then ?_))))
   refine fS h k m rfl rfl
 refine wp_skip (nm_block (nm_then ?_))
 refine wr (pN 1 k rfl fun a k => nn (wp_ret (fS h k m rfl rfl)))
theorem c_impl_sound (fu : Nat) {w0 : World} (r1 : Request) {cs2 : List Value} {F3 : List Nat} (hp4 : rd w0 F3 cs2 r1) {r : Bool}
    (h : d_impl_sound fu r1 = some r) :
    Calls Tryz.prog 76 #[.agg cs2.toArray] w0 fun e w => e = .returned (.bool (r)) ∧ Ext [] w0 w := by
 refine enter (vs := [_]) func76 rfl ntmps76 rfl fun a k => ?_
 have m := St.start w0
 obtain ⟨v5, F6, v7, F8, v9, F10, rfl, rfl, hf11, hf12, hf13⟩ := hp4
 unfold d_impl_sound at h
 refine wr (s_box (cs := [.int .i64 r1.fWay, .int .i64 r1.fPallet.fW, .int .i64 r1.fPallet.fD, .int .i64 r1.fPallet.fH, .int .i64 r1.fPallet.fGram, .int .i64 r1.fClasses, v5, v7, .int .i64 r1.fMaster, v9]) m k rfl rfl rfl rfl rfl rfl fun b14 w16 a k m e hb15 => pN 1 k rfl fun a k => nn (wr (sv k rfl (r_ldB ta40 m 0 hb15 0 k rfl rfl rfl rfl rfl rfl) fun a k => oE h fun x17 hx18 h => cE k m call142 rfl rfl rfl (c_impl_Class fu _ (show rd _ _ [.int .i64 r1.fWay, .int .i64 r1.fPallet.fW, .int .i64 r1.fPallet.fD, .int .i64 r1.fPallet.fH, .int .i64 r1.fPallet.fGram, .int .i64 r1.fClasses, v5, v7, .int .i64 r1.fMaster, v9] (r1 : Request) from ⟨_, _, _, _, _, _, rfl, rfl, (Enc.rd_agr hf11 (m.a00 (Enc.rd_lt hf11))), (Enc.rd_agr hf12 (m.a00 (Enc.rd_lt hf12))), (Enc.rd_agr hf13 (m.a00 (Enc.rd_lt hf13)))⟩) hx18) fun w20 e a k m => ?_)))
 refine pN 2 k rfl fun a k => nn (wp_ret (fS h k m rfl rfl))
theorem c_bits_Mul32 (fu : Nat) {w0 : World} (x1 : Int) (y2 : Int)  {r : Int × Int}
    (h : d_bits_Mul32 fu x1 y2 = some r) :
    Calls Tryz.prog 208 #[.int .u32 (x1), .int .u32 (y2)] w0 fun e w => e = .returned (.tuple #[.int .u32 (r.1), .int .u32 (r.2)]) ∧ Ext [] w0 w := by
 refine enter (vs := [_, _]) func208 rfl ntmps208 rfl fun a k => ?_
 have m := St.start w0
 unfold d_bits_Mul32 at h
 refine wr (pN 2 k rfl fun a k => nn (wr (pN 1 k rfl fun a k => sv k rfl (r_cv k underlying191 underlying194 rfl rfl) fun a k => pN 1 k rfl fun a k => sv k rfl (r_cv k underlying191 underlying194 rfl rfl) fun a k => pN 2 k rfl fun a k => nn (wr (pN 1 k rfl fun a k => sv k rfl (r_shr (y := 32) k rfl rfl rfl) fun a k => sv k rfl (r_cv k underlying194 underlying191 rfl rfl) fun a k => pN 1 k rfl fun a k => sv k rfl (r_cv k underlying194 underlying191 rfl rfl) fun a k => pN 2 k rfl fun a k => nn (wp_ret ?_))))))
 cases h
 exact finR2 k rfl (RV.tmp k rfl) (RV.tmp k rfl) ⟨rfl, m.ext⟩
theorem c_bits_Mul64 (fu : Nat) {w0 : World} (x1 : Int) (y2 : Int)  {r : Int × Int}
    (h : d_bits_Mul64 fu x1 y2 = some r) :
    Calls Tryz.prog 209 #[.int .u64 (x1), .int .u64 (y2)] w0 fun e w => e = .returned (.tuple #[.int .u64 (r.1), .int .u64 (r.2)]) ∧ Ext [] w0 w := by
 refine enter (vs := [_, _]) func209 rfl ntmps209 rfl fun a k => ?_
 have m := St.start w0
 unfold d_bits_Mul64 at h
 refine wr (pN 2 k rfl fun a k => nn (wr (pN 3 k rfl fun a k => nn (wr (pN 1 k rfl fun a k => sv k rfl (r_shr (y := 32) k rfl rfl rfl) fun a k => pN 1 k rfl fun a k => nn (wr (pN 3 k rfl fun a k => nn (wr (pN 1 k rfl fun a k => sv k rfl (r_shr (y := 32) k rfl rfl rfl) fun a k => pN 1 k rfl fun a k => nn (wr (pN 4 k rfl fun a k => nn (wr (pN 4 k rfl fun a k => sv k rfl (r_shr (y := 32) k rfl rfl rfl) fun a k => pN 2 k rfl fun a k => ?_)))))))))))))
 have k := k.keep [0, 1, 6, 7, 9, 11] rfl
 refine nn (wr (pN 3 k rfl fun a k => nn (wr (pN 1 k rfl fun a k => sv k rfl (r_shr (y := 32) k rfl rfl rfl) fun a k => pN 1 k rfl fun a k => nn (wr (pN 6 k rfl fun a k => nn (wr (pN 6 k rfl fun a k => sv k rfl (r_shr (y := 32) k rfl rfl rfl) fun a k => pN 2 k rfl fun a k => ?_))))))))
 have k := k.keep [0, 1, 4] rfl
 refine nn (wr (pN 4 k rfl fun a k => nn (wp_ret ?_)))
 cases h
 exact finR2 k rfl (RV.tmp k rfl) (RV.tmp k rfl) ⟨rfl, m.ext⟩
theorem c_bits_Mul (fu : Nat) {w0 : World} (x1 : Int) (y2 : Int)  {r : Int × Int}
    (h : d_bits_Mul fu x1 y2 = some r) :
    Calls Tryz.prog 186 #[.int .u64 (x1), .int .u64 (y2)] w0 fun e w => e = .returned (.tuple #[.int .u64 (r.1), .int .u64 (r.2)]) ∧ Ext [] w0 w := by
 refine enter (vs := [_, _]) func186 rfl ntmps186 rfl fun a k => ?_
 have m := St.start w0
 unfold d_bits_Mul at h
 refine wr (pN 2 k rfl fun a k => nn (wp_seq (wp_cond_false (k.ev rfl) (wp_skip (nm_then ?_)))))
 refine wr (pN 2 k rfl fun a k => oE h fun x3 hx4 h => cE k m call209 rfl rfl rfl (c_bits_Mul64 fu _ _  hx4) fun w6 e a k m => pN 5 k rfl fun a k => nn (wr (pN 4 k rfl fun a k => nn (wp_ret ?_))))
 cases h
 exact finR2 k rfl (RV.tmp k rfl) (RV.tmp k rfl) ⟨rfl, m.ext⟩
theorem c_slices_Repeat_int_int (fu : Nat) {w0 : World} (x1 : List Int) (count5 : Int) {v2 : Value} {F3 : List Nat} (hp4 : rd w0 F3 [v2] x1) {r : (List Int)}
    (h : d_slices_Repeat_int_int fu x1 count5 = some r) :
    Calls Tryz.prog 147 #[v2, .int .i64 count5] w0 fun e w => ∃ (v0 : Value) (G0 : List Nat), e = .returned (v0) ∧ Ext [] w0 w ∧ ow w G0 [v0] r ∧ (∀ b ∈ G0, w0.heap.size ≤ b) := by
 refine enter (vs := [_, _]) func147 rfl ntmps147 rfl fun a k => ?_
 have m := St.start w0
 unfold d_slices_Repeat_int_int at h
 refine wr (pN 1 k rfl fun a k => nn (c_cut (fun a w => K 48 [(0, v2), (1, .int .i64 count5)] a ∧ St [] w0 w [] ∧ d_slices_Repeat_int_int_J2 fu x1 count5 = some r) ?_ ?_))
 · rintro a w7 ⟨k, m, h⟩
   unfold d_slices_Repeat_int_int_J2 at h
   refine wr (pN 1 k rfl fun a k => sv k rfl (r_len (α := Int) hp4 k underlying29 rfl rfl) fun a k => sv k rfl (r_cv k underlying3 underlying181 rfl rfl) fun a k => pN 1 k rfl fun a k => sv k rfl (r_cv k underlying3 underlying181 rfl rfl) fun a k => oE h fun x8 hx9 h => cE k m call186 rfl rfl rfl (c_bits_Mul fu _ _  hx9) fun w11 e a k m => pN 5 k rfl fun a k => nn (c_cut (fun a w => K 48 [(0, v2), (6, .int .u64 (x8.2))] a ∧ St [] w0 w [] ∧ d_slices_Repeat_int_int_J1 fu x1 x8 = some r) ?_ ?_))
   · rintro a w14 ⟨k, m, h⟩
     unfold d_slices_Repeat_int_int_J1 at h
     refine wr (pN 1 k rfl fun a k => sv k rfl (r_cv k underlying181 underlying3 rfl rfl) fun a k => oE h fun x15 hx16 h => s_mk hx16 te29 rfl rfl m k rfl rfl rfl rfl rfl rfl fun g17 w18 a v20 k m e hf19 => pN 1 k rfl fun a k => nn (wr (pN 2 k rfl fun a k => s_cp (lo := 0) te29 m 0 hf19 (Part.self _) (Enc.rd_agr hp4 (m.a00 (Enc.rd_lt hp4))) k rfl rfl rfl rfl rfl rfl rfl fun w21 a k e m hf22 => pN 1 k rfl fun a k => nn (wp_seq (wp_block (c_loop (fun n a w => ∃ (newslice64 : List Int) (v65 : Value) (F66 : List Nat) (u67 : World) (n69 : Int), K 48 [(7, v65), (8, .int .i64 n69)] a ∧ St [] w0 w [(F66, u67)] ∧ ow u67 F66 [v65] newslice64 ∧ d_slices_Repeat_int_int_L1 fu  n newslice64 n69 = some r) ?_ ?_ fu _ _ ?_))))))
     · rintro a w ⟨_, _, _, _, _, _, _, _, h⟩
       exact nS h
     · rintro m70 a w63 ⟨newslice64, v65, F66, u67, n69, k, m, hf68, h⟩
       rw [d_slices_Repeat_int_int_L1_s] at h
       unfold d_slices_Repeat_int_int_L1_B at h
       refine wp_seq (wr (pN 2 k rfl fun a k => sv k rfl (r_len (α := Int) (Enc.ow_rd hf68) k underlying29 rfl rfl) fun a k => pN 1 k rfl fun a k => nn (cI h k rfl (fun hb71 h => ?_) fun hb71 h => ?_)))
       · refine wp_skip (nm_then ?_)
         refine wp_block (d_go (F66) mixo m rfl fun w72 hMd => ?_)
         have m := hMd
         have s := Ext.refl ((F66) : List Nat) w72
         refine dp k 0 rfl (by kernel_rfl) rfl s (fun _ _ _ => id) rfl fun a k => dp k 1 rfl (by kernel_rfl) rfl s (fun _ _ _ => id) rfl fun a k => dp k 2 rfl (by kernel_rfl) rfl s (fun _ _ _ => id) rfl fun a k => oE h fun x73 hx74 h => ?_
         obtain ⟨v75, hf76, hP77, hrn78⟩ := sl_from (Enc.ow_rd hf68) hx74 ts29
         refine dt k 3 rfl (by kernel_rfl) rfl s (fun _ _ _ => id) (fun w s => hrn78 k rfl rfl rfl _) fun a k => dp k 4 rfl (by kernel_rfl) rfl s (fun _ _ _ => id) rfl fun a k => dp k 5 rfl (by kernel_rfl) rfl s (fun _ _ _ => id) rfl fun a k => oE h fun x79 hx80 h => ?_
         obtain ⟨v81, hf82, hrn84⟩ := sl_to (Enc.ow_rd hf68) hx80 ts29
         refine dt k 6 rfl (by kernel_rfl) rfl s (fun _ _ _ => id) (fun w s => hrn84 k rfl rfl rfl _) fun a k => d_one 7 (by kernel_rfl) rfl (s_cp (lo := n69) te29 m 0 hf68 hP77 (Enc.rd_agr hf82 (m.a 0 rfl)) k rfl rfl rfl rfl rfl rfl rfl fun w85 a k e m hf86 => ?_)
         have s := s.trans e (fun y hy => Or.inl hy)
         refine wpList_nil ⟨s, ?_⟩
         refine dp k 8 rfl (by kernel_rfl) rfl s (fun _ _ _ => id) rfl fun a k => dp k 9 rfl (by kernel_rfl) rfl s (fun _ _ _ => id) rfl fun a k => d_done (by kernel_rfl) ((nm_block (nm_then ?_)))
         exact ⟨cpd newslice64 n69 x79, v65, F66, w85, w64 (n69 + (cpn newslice64 n69 x79)), k.keep [7, 8] rfl, m.sel [0] rfl (by decide), hf86, h⟩
       refine wp_exit (ex_then (ex_then (ex_same (nm_then ?_))))
       refine wr (pN 2 k rfl fun a k => nn (wp_ret ?_))
       cases h
       exact finR1 k rfl (RV.tmp k rfl) ⟨_, F66, rfl, m.ext, (Enc.ow_agr hf68 (m.a 0 rfl)), (m.fresh 0 rfl)⟩
     exact ⟨cpd x15 0 x1, v20, [g17], w21, cpn x15 0 x1, k.keep [7, 8] rfl, m.sel [0] rfl (by decide), hf22, h⟩
   refine wr (pN 3 k rfl fun a k => bsplit (decide (x8.1 > 0)) (fun hb87 => ?_) (fun hb87 => ?_))
   · have h := bif_t hb87 h
     refine rB k 23 rfl hb87 fun k => pN 3 k rfl fun a k => nn (wp_cond_true (k.ev rfl) ?_)
     exact nS h
   have h := bif_f hb87 h
   refine rB k 23 rfl hb87 fun k => pN 3 k rfl fun a k => nn (cI h k rfl (fun hb88 h => ?_) fun hb88 h => ?_)
   · exact nS h
   refine wp_skip (nm_then ?_)
   exact ⟨k.keep [0, 6] rfl, m.sel [] rfl (by decide), h⟩
 refine wr (pN 2 k rfl fun a k => nn (cI h k rfl (fun hb89 h => ?_) fun hb89 h => ?_))
 · exact nS h
 refine wp_skip (nm_then ?_)
 exact ⟨k.keep [0, 1] rfl, m.sel [] rfl (by decide), h⟩
theorem c_impl_Units (fu : Nat) {w0 : World} (r1 : Request) {cs2 : List Value} {F3 : List Nat} (hp4 : rd w0 F3 cs2 r1) {r : (List Int)}
    (h : d_impl_Units fu r1 = some r) :
    Calls Tryz.prog 84 #[.agg cs2.toArray] w0 fun e w => ∃ (v0 : Value) (G0 : List Nat), e = .returned (v0) ∧ Ext [] w0 w ∧ ow w G0 [v0] r ∧ (∀ b ∈ G0, w0.heap.size ≤ b) := by
 refine enter (vs := [_]) func84 rfl ntmps84 rfl fun a k => ?_
 have m := St.start w0
 obtain ⟨v5, F6, v7, F8, v9, F10, rfl, rfl, hf11, hf12, hf13⟩ := hp4
 unfold d_impl_Units at h
 refine wr (s_box (cs := [.int .i64 r1.fWay, .int .i64 r1.fPallet.fW, .int .i64 r1.fPallet.fD, .int .i64 r1.fPallet.fH, .int .i64 r1.fPallet.fGram, .int .i64 r1.fClasses, v5, v7, .int .i64 r1.fMaster, v9]) m k rfl rfl rfl rfl rfl rfl fun b14 w16 a k m e hb15 => pN 1 k rfl fun a k => nn (wp_seq (wr (sv k rfl (r_ldB ta40 m 0 hb15 0 k rfl rfl rfl rfl rfl rfl) fun a k => oE h fun x17 hx18 h => cE k m call76 rfl rfl rfl (c_impl_sound fu _ (show rd _ _ [.int .i64 r1.fWay, .int .i64 r1.fPallet.fW, .int .i64 r1.fPallet.fD, .int .i64 r1.fPallet.fH, .int .i64 r1.fPallet.fGram, .int .i64 r1.fClasses, v5, v7, .int .i64 r1.fMaster, v9] (r1 : Request) from ⟨_, _, _, _, _, _, rfl, rfl, (Enc.rd_agr hf11 (m.a00 (Enc.rd_lt hf11))), (Enc.rd_agr hf12 (m.a00 (Enc.rd_lt hf12))), (Enc.rd_agr hf13 (m.a00 (Enc.rd_lt hf13)))⟩) hx18) fun w20 e a k m => ?_))))
 refine pN 1 k rfl fun a k => nn (cI h k rfl (fun hb21 h => ?_) fun hb21 h => ?_)
 · refine wr (pN 1 k rfl fun a k => nn (wp_ret (rt_then ?_)))
   cases h
   exact finR1 k rfl (RV.tmp k rfl) ⟨_, [], rfl, m.ext, (ow_nil _), (by simp)⟩
 refine wp_skip (nm_then ?_)
 refine wr (s_bs (cs := []) (ps := []) te29 m k rfl rfl rfl rfl rfl rfl rfl (by decide) rfl (by exact (List.forall_mem_nil _)) fun g22 w23 e25 a k m e hb24 => ?_)
 have hf26 := ow_bx hb24 ([] : List Int) rfl rfl rfl
 refine pN 1 k rfl fun a k => nn (wp_seq (wr (sv k rfl (r_fa fa40_6 k rfl rfl) fun a k => sv k rfl (r_ldb t138 m 1 hb15 9 k rfl rfl rfl rfl rfl) fun a k => sv k rfl (r_len (α := Item) hf13 k underlying38 rfl rfl) fun a k => pN 1 k rfl fun a k => nn (wp_block (c_loop (fun n a w => ∃ (out92 : List Int) (v93 : Value) (F94 : List Nat) (u95 : World) (x97 : Int), K 27 [(3, v93), (11, v9), (12, .int .i64 ((r1.fItems.length : Int))), (13, .int .i64 x97)] a ∧ St [] w0 w [(F94, u95)] ∧ ow u95 F94 [v93] out92 ∧ d_impl_Units_L1 fu r1 n out92 x97 = some r) ?_ ?_ fu _ _ ?_)))))
 · rintro a w ⟨_, _, _, _, _, _, _, _, h⟩
   exact nS h
 · rintro m98 a w91 ⟨out92, v93, F94, u95, x97, k, m, hf96, h⟩
   rw [d_impl_Units_L1_s] at h
   unfold d_impl_Units_L1_B at h
   refine wr (pN 1 k rfl fun a k => nn (wp_seq (cI h k rfl (fun hb99 h => ?_) fun hb99 h => ?_)))
   · refine wp_skip (nm_then ?_)
     refine wp_seq (wp_block (wr (pN 1 k rfl fun a k => oE h fun x100 hx101 h => sv k rfl (r_ixa hf13 hx101 k ts38 rfl rfl rfl) fun a k => sv k rfl (r_lde hf13 (m.a00 (Enc.rd_lt hf13)) hx101 ta120 k rfl rfl) fun a k => s_alloc (cs := [.int .i64 0, .int .i64 0, .int .i64 0, .int .i64 0, .int .i64 0, .int .i64 0, .int .i64 0]) m k zeroValue120 rfl rfl rfl rfl rfl fun b102 w104 a k m e hb103 => pN 1 k rfl fun a k => s_stb (cs' := [.int .i64 x100.fId, .int .i64 x100.fW, .int .i64 x100.fH, .int .i64 x100.fD, .int .i64 x100.fGram, .int .i64 x100.fClass, .int .i64 x100.fCount]) sizeOf120 m 0 hb103 0 k rfl rfl rfl rfl rfl rfl rfl rfl rfl rfl rfl fun w105 a k e m hb106 => nn (wp_region_lit (pN 2 k rfl fun a k => ?_)))))
     refine s_bs (cs := [.int .i64 x97]) (ps := [(0, .tmp 19)]) te29 m k rfl rfl rfl rfl rfl rfl rfl (by decide) rfl (by exact (List.forall_mem_cons.2 ⟨rfl, (List.forall_mem_nil _)⟩)) fun g107 w108 e110 a k m e hb109 => ?_
     have hf111 := ow_bx hb109 ([x97] : List Int) rfl rfl rfl
     refine sv k rfl (r_fa fa120_6 k rfl rfl) fun a k => sv k rfl (r_ldb t13 m 1 hb106 6 k rfl rfl rfl rfl rfl) fun a k => oE h fun x112 hx113 h => s_call k call147 rfl rfl rfl rfl rfl (c_slices_Repeat_int_int fu _ _ (Enc.rd_agr (Enc.ow_rd hf111) (m.a 0 rfl)) hx113) fun e114 w115 hR => ?_
     obtain ⟨v120, F116, rfl, e, hf117, hfr118⟩ := hR
     refine ⟨_, rfl, fun a k => ?_⟩
     have m := m.new e F116 (fun b hb => ⟨hfr118 b hb, Enc.rd_lt (Enc.ow_rd hf117) b hb⟩) (Enc.ow_nd hf117)
     refine oE h fun x121 hx122 h => s_appF hx122 te29 rfl m 3 hf96 (News.rd (Enc.rd_agr (Enc.ow_rd hf117) (m.a 0 rfl))) rfl rfl k rfl rfl rfl rfl rfl rfl rfl fun v123 F124 w125 a k e m hf126 => pN 1 k rfl fun a k => wpList_nil (nm_block (nm_then ?_))
     refine wp_region_lit (pN 2 k rfl fun a k => nn ?_)
     exact ⟨x121, v123, F124, w125, w64 (x97 + 1), k.keep [3, 11, 12, 13] rfl, m.sel [3] rfl (by decide), hf126, h⟩
   refine wp_exit (ex_then (ex_then (ex_same (nm_then ?_))))
   refine wr (pN 2 k rfl fun a k => nn (wp_ret ?_))
   cases h
   exact finR1 k rfl (RV.tmp k rfl) ⟨_, F94, rfl, m.ext, (Enc.ow_agr hf96 (m.a 0 rfl)), (m.fresh 0 rfl)⟩
 exact ⟨([] : List Int), (.slice (some ⟨g22, 0, none⟩) 0 0), [g22], w23, 0, k.keep [3, 11, 12, 13] rfl, m.sel [0] rfl (by decide), hf26, h⟩
theorem c_slices_Clone_int_int (fu : Nat) {w0 : World} (sv1 : List Int) {v2 : Value} {F3 : List Nat} (hp4 : rd w0 F3 [v2] sv1) {r : (List Int)}
    (h : d_slices_Clone_int_int fu sv1 = some r) :
    Calls Tryz.prog 158 #[v2] w0 fun e w => ∃ (v0 : Value) (G0 : List Nat), e = .returned (v0) ∧ Ext [] w0 w ∧ ow w G0 [v0] r ∧ (∀ b ∈ G0, w0.heap.size ≤ b) := by
 refine enter (vs := [_]) func158 rfl ntmps158 rfl fun a k => ?_
 have m := St.start w0
 unfold d_slices_Clone_int_int at h
 refine wr (pN 1 k rfl fun a k => nn (wp_seq (wr (pN 1 k rfl fun a k => ?_))))
 obtain ⟨gb5, hg6, hr7⟩ := r_nilq hp4
 refine sv k rfl (hr7 k underlying29 rfl rfl rfl) fun a k => nn (c_cond (b := gb5) k rfl (fun hb8 => ?_) (fun hb8 => ?_))
 · have hx9 := hg6 hb8
   rw [hx9] at h
   have h : some (([] : List Int)) = some r := h
   refine wr (pN 1 k rfl fun a k => nn (wp_ret (rt_then ?_)))
   cases h
   exact finR1 k rfl (RV.tmp k rfl) ⟨_, [], rfl, m.ext, (ow_nil _), (by simp)⟩
 refine wp_skip (nm_then ?_)
 refine wr (s_bs (cs := []) (ps := []) te29 m k rfl rfl rfl rfl rfl rfl rfl (by decide) rfl (by exact (List.forall_mem_nil _)) fun g10 w11 e13 a k m e hb12 => ?_)
 have hf14 := ow_bx hb12 ([] : List Int) rfl rfl rfl
 refine pN 1 k rfl fun a k => oE h fun x15 hx16 h => s_appF hx16 te29 rfl m 0 hf14 (News.rd (Enc.rd_agr hp4 (m.a00 (Enc.rd_lt hp4)))) rfl rfl k rfl rfl rfl rfl rfl rfl rfl fun v17 F18 w19 a k e m hf20 => pN 1 k rfl fun a k => nn (wp_ret ?_)
 cases h
 exact finR1 k rfl (RV.tmp k rfl) ⟨_, F18, rfl, m.ext, (Enc.ow_agr hf20 (m.a 0 rfl)), (m.fresh 0 rfl)⟩
theorem c_impl_itemsOf (fu : Nat) {w0 : World} (r1 : Request) (units5 : List Int) {cs2 : List Value} {F3 : List Nat} (hp4 : rd w0 F3 cs2 r1) {v6 : Value} {F7 : List Nat} (hp8 : rd w0 F7 [v6] units5) {r : (List Item)}
    (h : d_impl_itemsOf fu r1 units5 = some r) :
    Calls Tryz.prog 143 #[.agg cs2.toArray, v6] w0 fun e w => ∃ (v0 : Value) (G0 : List Nat), e = .returned (v0) ∧ Ext [] w0 w ∧ ow w G0 [v0] r ∧ (∀ b ∈ G0, w0.heap.size ≤ b) := by
 refine enter (vs := [_, _]) func143 rfl ntmps143 rfl fun a k => ?_
 have m := St.start w0
 obtain ⟨v9, F10, v11, F12, v13, F14, rfl, rfl, hf15, hf16, hf17⟩ := hp4
 unfold d_impl_itemsOf at h
 refine wr (s_box (cs := [.int .i64 r1.fWay, .int .i64 r1.fPallet.fW, .int .i64 r1.fPallet.fD, .int .i64 r1.fPallet.fH, .int .i64 r1.fPallet.fGram, .int .i64 r1.fClasses, v9, v11, .int .i64 r1.fMaster, v13]) m k rfl rfl rfl rfl rfl rfl fun b18 w20 a k m e hb19 => pN 1 k rfl fun a k => nn (wr (sv k rfl (r_ldB ta40 m 0 hb19 0 k rfl rfl rfl rfl rfl rfl) fun a k => oE h fun x21 hx22 h => ?_)))
 refine s_call k call84 rfl rfl rfl rfl rfl (c_impl_Units fu _ (show rd _ _ [.int .i64 r1.fWay, .int .i64 r1.fPallet.fW, .int .i64 r1.fPallet.fD, .int .i64 r1.fPallet.fH, .int .i64 r1.fPallet.fGram, .int .i64 r1.fClasses, v9, v11, .int .i64 r1.fMaster, v13] (r1 : Request) from ⟨_, _, _, _, _, _, rfl, rfl, (Enc.rd_agr hf15 (m.a00 (Enc.rd_lt hf15))), (Enc.rd_agr hf16 (m.a00 (Enc.rd_lt hf16))), (Enc.rd_agr hf17 (m.a00 (Enc.rd_lt hf17)))⟩) hx22) fun e23 w24 hR => ?_
 obtain ⟨v29, F25, rfl, e, hf26, hfr27⟩ := hR
 refine ⟨_, rfl, fun a k => ?_⟩
 have m := m.new e F25 (fun b hb => ⟨hfr27 b hb, Enc.rd_lt (Enc.ow_rd hf26) b hb⟩) (Enc.ow_nd hf26)
 refine pN 1 k rfl fun a k => nn (wr (s_bs (cs := []) (ps := []) te38 m k rfl rfl rfl rfl rfl rfl rfl (by decide) rfl (by exact (List.forall_mem_nil _)) fun g30 w31 e33 a k m e hb32 => ?_))
 have hf34 := ow_bx hb32 ([] : List Item) rfl rfl rfl
 refine pN 1 k rfl fun a k => nn (wp_seq (wr (pN 1 k rfl fun a k => sv k rfl (r_len (α := Int) hp8 k underlying29 rfl rfl) fun a k => pN 1 k rfl fun a k => nn (wp_block (c_loop (fun n a w => ∃ (out166 : List Item) (v167 : Value) (F168 : List Nat) (u169 : World) (x171 : Int), K 36 [(2, .pointer (some (⟨b18, 0, none⟩ : Addr))), (5, v29), (6, v167), (12, v6), (13, .int .i64 ((units5.length : Int))), (14, .int .i64 x171)] a ∧ St [] w0 w [([b18], w20), (F25, w24), (F168, u169)] ∧ ow u169 F168 [v167] out166 ∧ d_impl_itemsOf_L1 fu r1 units5 x21 n out166 x171 = some r) ?_ ?_ fu _ _ ?_)))))
 · rintro a w ⟨_, _, _, _, _, _, _, _, h⟩
   exact nS h
 · rintro m172 a w165 ⟨out166, v167, F168, u169, x171, k, m, hf170, h⟩
   rw [d_impl_itemsOf_L1_s] at h
   unfold d_impl_itemsOf_L1_B at h
   refine wr (pN 1 k rfl fun a k => nn (wp_seq (cI h k rfl (fun hb173 h => ?_) fun hb173 h => ?_)))
   · refine wp_skip (nm_then ?_)
     refine c_cut (fun a w => ∃ (out202 : List Item) (v203 : Value) (F204 : List Nat) (u205 : World), K 36 [(2, .pointer (some (⟨b18, 0, none⟩ : Addr))), (5, v29), (6, v203), (12, v6), (13, .int .i64 ((units5.length : Int))), (14, .int .i64 x171)] a ∧ St [] w0 w [([b18], w20), (F25, w24), (F204, u205)] ∧ ow u205 F204 [v203] out202 ∧ d_impl_itemsOf_J1 fu (d_impl_itemsOf_L1 fu r1 units5 x21 m172) x171 out202 = some r) ?_ ?_
     · rintro a w201 ⟨out202, v203, F204, u205, k, m, hf206, h⟩
       unfold d_impl_itemsOf_J1 at h
       refine wp_region_lit (pN 2 k rfl fun a k => nn ?_)
       exact ⟨out202, v203, F204, u205, w64 (x171 + 1), k.keep [2, 5, 6, 12, 13, 14] rfl, m.sel [0, 1, 2] rfl (by decide), hf206, h⟩
     refine wp_block (wr (oE h fun x207 hx208 h => sv k rfl (r_ixa hp8 hx208 k ts29 rfl rfl rfl) fun a k => sv k rfl (r_lde1 hp8 (m.a00 (Enc.rd_lt hp8)) hx208 0 t13 k rfl rfl rfl rfl) fun a k => pN 1 k rfl fun a k => nn (wr (pN 2 k rfl fun a k => sv k rfl (r_len (α := Int) (Enc.ow_rd hf26) k underlying29 rfl rfl) fun a k => pN 1 k rfl fun a k => oE h fun x209 hx210 h => cE k m call99 rfl rfl rfl (c_impl_in fu _ _ _  hx210) fun w212 e a k m => nn (cI h k rfl (fun hb213 h => ?_) fun hb213 h => ?_)))))
     · refine d_go (F168) mixo m rfl fun w214 hMd => ?_
       have m := hMd
       have s := Ext.refl ((F168) : List Nat) w214
       refine dp k 0 rfl (by kernel_rfl) rfl s (fun _ _ _ => id) rfl fun a k => dt k 1 rfl (by kernel_rfl) rfl s (fun _ _ _ => id) (fun w s => r_fa fa40_6 k rfl rfl) fun a k => dt k 2 rfl (by kernel_rfl) rfl s (fun _ _ _ => id) (fun w s => r_ld1 t138 (r := []) (hb19.at (hMd.az 0 2 rfl rfl rfl s) 9 1 rfl rfl rfl) k rfl rfl) fun a k => dp k 3 rfl (by kernel_rfl) rfl s (fun _ _ _ => id) rfl fun a k => dp k 4 rfl (by kernel_rfl) rfl s (fun _ _ _ => id) rfl fun a k => oE h fun x215 hx216 h => dt k 5 rfl (by kernel_rfl) rfl s (fun _ _ _ => id) (fun w s => r_ixa (Enc.ow_rd hf26) hx216 k ts29 rfl rfl rfl) fun a k => dt k 6 rfl (by kernel_rfl) rfl s (fun _ _ _ => id) (fun w s => r_lde1 (Enc.ow_rd hf26) (hMd.az 1 2 rfl rfl rfl s) hx216 0 t13 k rfl rfl rfl rfl) fun a k => oE h fun x217 hx218 h => ?_
       refine dt k 7 rfl (by kernel_rfl) rfl s (fun _ _ _ => id) (fun w s => r_ixa hf17 hx218 k ts38 rfl rfl rfl) fun a k => dt k 8 rfl (by kernel_rfl) rfl s (fun _ _ _ => id) (fun w s => r_lde hf17 (hMd.az0 2 rfl rfl (Enc.rd_lt hf17) s) hx218 ta120 k rfl rfl) fun a k => d_one 9 (by kernel_rfl) rfl (s_bsN (cs := [.int .i64 x217.fId, .int .i64 x217.fW, .int .i64 x217.fH, .int .i64 x217.fD, .int .i64 x217.fGram, .int .i64 x217.fClass, .int .i64 x217.fCount]) (ps := [(0, .tmp 31)]) te38 m k rfl rfl rfl rfl rfl rfl rfl (by decide) rfl (by exact (List.forall_mem_cons.2 ⟨rfl, (List.forall_mem_nil _)⟩)) fun g219 w220 e222 a k m e hb221 hgn223 => ?_)
       have hlo225 := lo1 (Nat.le_trans s.size hgn223)
       have hf224 := ow_bx hb221 ([x217] : List Item) rfl rfl rfl
       have s := s.trans e (by simp)
       refine wpList_nil ⟨s, ?_⟩
       refine d_one 10 (by kernel_rfl) rfl (oE h fun x226 hx227 h => s_appFN hx227 te38 rfl m 3 hf170 (News.rd (Enc.rd_agr (Enc.ow_rd hf224) (m.a 0 rfl))) rfl rfl k rfl rfl rfl rfl rfl rfl rfl fun v228 F229 w230 a k e m hf231 hap232 => ?_)
       have hlo233 : ∀ y ∈ F229, y ∈ (F168) ∨ _ ≤ y := fun y hy => (hap232 y hy).elim (fun hy => (fun y hy => Or.inl hy) y hy) (fun h => Or.inr (Nat.le_trans s.size h))
       have s := s.trans e (fun y hy => Or.inl hy)
       refine wpList_nil ⟨s, ?_⟩
       refine dp k 11 rfl (by kernel_rfl) rfl s (fun _ _ _ => id) rfl fun a k => d_done (by kernel_rfl) ((nm_block (nm_then ?_)))
       exact ⟨x226, v228, F229, w230, k.keep [2, 5, 6, 12, 13, 14] rfl, m.sel [1, 2, 3] rfl (by decide), hf231, h⟩
     refine wp_skip (nm_block (nm_then ?_))
     exact ⟨out166, v167, F168, u169, k.keep [2, 5, 6, 12, 13, 14] rfl, m.sel [0, 1, 2] rfl (by decide), hf170, h⟩
   refine wp_exit (ex_then (ex_then (ex_same (nm_then ?_))))
   refine wr (pN 2 k rfl fun a k => nn (wp_ret ?_))
   cases h
   exact finR1 k rfl (RV.tmp k rfl) ⟨_, F168, rfl, m.ext, (Enc.ow_agr hf170 (m.a 2 rfl)), (m.fresh 2 rfl)⟩
 exact ⟨([] : List Item), (.slice (some ⟨g30, 0, none⟩) 0 0), [g30], w31, 0, k.keep [2, 5, 6, 12, 13, 14] rfl, m.sel [2, 1, 0] rfl (by decide), hf34, h⟩
theorem c_impl_Volume (fu : Nat) {w0 : World} (wv1 : Int) (h2 : Int) (d3 : Int)  {r : Int}
    (h : d_impl_Volume fu wv1 h2 d3 = some r) :
    Calls Tryz.prog 78 #[.int .i64 wv1, .int .i64 h2, .int .i64 d3] w0 fun e w => e = .returned (.int .i64 r) ∧ Ext [] w0 w := by
 refine enter (vs := [_, _, _]) func78 rfl ntmps78 rfl fun a k => ?_
 have m := St.start w0
 unfold d_impl_Volume at h
 refine wr (pN 1 k rfl fun a k => nn (c_cut (fun a w => K 25 [(0, .int .i64 wv1), (1, .int .i64 h2), (2, .int .i64 d3)] a ∧ St [] w0 w [] ∧ d_impl_Volume_J1 fu wv1 h2 d3 = some r) ?_ ?_))
 · rintro a w19 ⟨k, m, h⟩
   unfold d_impl_Volume_J1 at h
   refine wr (pN 6 k rfl fun a k => nn (wp_ret (fS h k m rfl rfl)))
 refine wr (pN 1 k rfl fun a k => oE h fun x20 hx21 h => cE k m call99 rfl rfl rfl (c_impl_in fu _ _ _  hx21) fun w23 e a k m => pN 2 k rfl fun a k => bsplit (!x20) (fun hb24 => ?_) (fun hb24 => ?_))
 · have h := bif_t hb24 h
   refine rB k 10 rfl hb24 fun k => pN 9 k rfl fun a k => nn (wp_cond_true (k.ev rfl) (wr (pN 1 k rfl fun a k => nn (wp_ret (rt_then ?_)))))
   refine fS h k m rfl rfl
 have h := bif_f hb24 h
 refine rB k 10 rfl hb24 fun k => pN 1 k rfl fun a k => oE h fun x25 hx26 h => cE k m call99 rfl rfl rfl (c_impl_in fu _ _ _  hx26) fun w28 e a k m => pN 3 k rfl fun a k => bsplit (!x25) (fun hb29 => ?_) (fun hb29 => ?_)
 · have h := bif_t hb29 h
   refine rB k 15 rfl hb29 fun k => pN 4 k rfl fun a k => nn (wp_cond_true (k.ev rfl) (wr (pN 1 k rfl fun a k => nn (wp_ret (rt_then ?_)))))
   refine fS h k m rfl rfl
 have h := bif_f hb29 h
 refine rB k 15 rfl hb29 fun k => pN 1 k rfl fun a k => oE h fun x30 hx31 h => cE k m call99 rfl rfl rfl (c_impl_in fu _ _ _  hx31) fun w33 e a k m => pN 2 k rfl fun a k => nn (cI h k rfl (fun hb34 h => ?_) fun hb34 h => ?_)
 · refine wr (pN 1 k rfl fun a k => nn (wp_ret (rt_then ?_)))
   refine fS h k m rfl rfl
 refine wp_skip (nm_then ?_)
 exact ⟨k.keep [0, 1, 2] rfl, m.sel [] rfl (by decide), h⟩
theorem c_impl_VolumeOf (fu : Nat) {w0 : World} (r1 : Request) (units5 : List Int) {cs2 : List Value} {F3 : List Nat} (hp4 : rd w0 F3 cs2 r1) {v6 : Value} {F7 : List Nat} (hp8 : rd w0 F7 [v6] units5) {r : Int}
    (h : d_impl_VolumeOf fu r1 units5 = some r) :
    Calls Tryz.prog 77 #[.agg cs2.toArray, v6] w0 fun e w => e = .returned (.int .i64 r) ∧ Ext [] w0 w := by
 refine enter (vs := [_, _]) func77 rfl ntmps77 rfl fun a k => ?_
 have m := St.start w0
 obtain ⟨v9, F10, v11, F12, v13, F14, rfl, rfl, hf15, hf16, hf17⟩ := hp4
 unfold d_impl_VolumeOf at h
 refine wr (s_box (cs := [.int .i64 r1.fWay, .int .i64 r1.fPallet.fW, .int .i64 r1.fPallet.fD, .int .i64 r1.fPallet.fH, .int .i64 r1.fPallet.fGram, .int .i64 r1.fClasses, v9, v11, .int .i64 r1.fMaster, v13]) m k rfl rfl rfl rfl rfl rfl fun b18 w20 a k m e hb19 => pN 1 k rfl fun a k => nn (wr (pN 1 k rfl fun a k => nn (wp_seq (wr (sv k rfl (r_ldB ta40 m 0 hb19 0 k rfl rfl rfl rfl rfl rfl) fun a k => pN 1 k rfl fun a k => oE h fun x21 hx22 h => ?_))))))
 refine s_call k call143 rfl rfl rfl rfl rfl (c_impl_itemsOf fu _ _ (show rd _ _ [.int .i64 r1.fWay, .int .i64 r1.fPallet.fW, .int .i64 r1.fPallet.fD, .int .i64 r1.fPallet.fH, .int .i64 r1.fPallet.fGram, .int .i64 r1.fClasses, v9, v11, .int .i64 r1.fMaster, v13] (r1 : Request) from ⟨_, _, _, _, _, _, rfl, rfl, (Enc.rd_agr hf15 (m.a00 (Enc.rd_lt hf15))), (Enc.rd_agr hf16 (m.a00 (Enc.rd_lt hf16))), (Enc.rd_agr hf17 (m.a00 (Enc.rd_lt hf17)))⟩) (Enc.rd_agr hp8 (m.a00 (Enc.rd_lt hp8))) hx22) fun e23 w24 hR => ?_
 obtain ⟨v29, F25, rfl, e, hf26, hfr27⟩ := hR
 refine ⟨_, rfl, fun a k => ?_⟩
 have m := m.new e F25 (fun b hb => ⟨hfr27 b hb, Enc.rd_lt (Enc.ow_rd hf26) b hb⟩) (Enc.ow_nd hf26)
 refine sv k rfl (r_len (α := Item) (Enc.ow_rd hf26) k underlying38 rfl rfl) fun a k => pN 1 k rfl fun a k => nn (wp_block (c_loop (fun n a w => ∃ (n59 : Int) (x60 : Int), K 27 [(5, .int .i64 n59), (10, v29), (11, .int .i64 ((x21.length : Int))), (12, .int .i64 x60)] a ∧ St [] w0 w [(F25, w24)] ∧ d_impl_VolumeOf_L1 fu x21 n n59 x60 = some r) ?_ ?_ fu _ _ ?_))
 · rintro a w ⟨_, _, _, _, h⟩
   exact nS h
 · rintro m61 a w58 ⟨n59, x60, k, m, h⟩
   rw [d_impl_VolumeOf_L1_s] at h
   unfold d_impl_VolumeOf_L1_B at h
   refine wr (pN 1 k rfl fun a k => nn (wp_seq (cI h k rfl (fun hb62 h => ?_) fun hb62 h => ?_)))
   · refine wp_skip (nm_then ?_)
     refine wp_seq (wp_block (wr (oE h fun x63 hx64 h => sv k rfl (r_ixa (Enc.ow_rd hf26) hx64 k ts38 rfl rfl rfl) fun a k => sv k rfl (r_lde (Enc.ow_rd hf26) (m.a 0 rfl) hx64 ta120 k rfl rfl) fun a k => s_alloc (cs := [.int .i64 0, .int .i64 0, .int .i64 0, .int .i64 0, .int .i64 0, .int .i64 0, .int .i64 0]) m k zeroValue120 rfl rfl rfl rfl rfl fun b65 w67 a k m e hb66 => s_stb (cs' := [.int .i64 x63.fId, .int .i64 x63.fW, .int .i64 x63.fH, .int .i64 x63.fD, .int .i64 x63.fGram, .int .i64 x63.fClass, .int .i64 x63.fCount]) sizeOf120 m 0 hb66 0 k rfl rfl rfl rfl rfl rfl rfl rfl rfl rfl rfl fun w68 a k e m hb69 => nn (wp_region_lit (pN 1 k rfl fun a k => sv k rfl (r_fa fa120_1 k rfl rfl) fun a k => sv k rfl (r_ldb t13 m 0 hb69 1 k rfl rfl rfl rfl rfl) fun a k => sv k rfl (r_fa fa120_2 k rfl rfl) fun a k => ?_)))))
     refine sv k rfl (r_ldb t13 m 0 hb69 2 k rfl rfl rfl rfl rfl) fun a k => sv k rfl (r_fa fa120_3 k rfl rfl) fun a k => sv k rfl (r_ldb t13 m 0 hb69 3 k rfl rfl rfl rfl rfl) fun a k => oE h fun x70 hx71 h => cE k m call78 rfl rfl rfl (c_impl_Volume fu _ _ _  hx71) fun w73 e a k m => pN 2 k rfl fun a k => wpList_nil (nm_block (nm_then ?_))
     refine wp_region_lit (pN 2 k rfl fun a k => nn ?_)
     exact ⟨w64 (n59 + x70), w64 (x60 + 1), k.keep [5, 10, 11, 12] rfl, m.sel [1] rfl (by decide), h⟩
   refine wp_exit (ex_then (ex_then (ex_same (nm_then ?_))))
   refine wr (pN 2 k rfl fun a k => nn (wp_ret (fS h k m rfl rfl)))
 exact ⟨0, 0, k.keep [5, 10, 11, 12] rfl, m.sel [0] rfl (by decide), h⟩
theorem c_impl_GramOf (fu : Nat) {w0 : World} (r1 : Request) (units5 : List Int) {cs2 : List Value} {F3 : List Nat} (hp4 : rd w0 F3 cs2 r1) {v6 : Value} {F7 : List Nat} (hp8 : rd w0 F7 [v6] units5) {r : Int}
    (h : d_impl_GramOf fu r1 units5 = some r) :
    Calls Tryz.prog 94 #[.agg cs2.toArray, v6] w0 fun e w => e = .returned (.int .i64 r) ∧ Ext [] w0 w := by
 refine enter (vs := [_, _]) func94 rfl ntmps94 rfl fun a k => ?_
 have m := St.start w0
 obtain ⟨v9, F10, v11, F12, v13, F14, rfl, rfl, hf15, hf16, hf17⟩ := hp4
 unfold d_impl_GramOf at h
 refine wr (s_box (cs := [.int .i64 r1.fWay, .int .i64 r1.fPallet.fW, .int .i64 r1.fPallet.fD, .int .i64 r1.fPallet.fH, .int .i64 r1.fPallet.fGram, .int .i64 r1.fClasses, v9, v11, .int .i64 r1.fMaster, v13]) m k rfl rfl rfl rfl rfl rfl fun b18 w20 a k m e hb19 => pN 1 k rfl fun a k => nn (wr (pN 1 k rfl fun a k => nn (wp_seq (wr (sv k rfl (r_ldB ta40 m 0 hb19 0 k rfl rfl rfl rfl rfl rfl) fun a k => pN 1 k rfl fun a k => oE h fun x21 hx22 h => ?_))))))
 refine s_call k call143 rfl rfl rfl rfl rfl (c_impl_itemsOf fu _ _ (show rd _ _ [.int .i64 r1.fWay, .int .i64 r1.fPallet.fW, .int .i64 r1.fPallet.fD, .int .i64 r1.fPallet.fH, .int .i64 r1.fPallet.fGram, .int .i64 r1.fClasses, v9, v11, .int .i64 r1.fMaster, v13] (r1 : Request) from ⟨_, _, _, _, _, _, rfl, rfl, (Enc.rd_agr hf15 (m.a00 (Enc.rd_lt hf15))), (Enc.rd_agr hf16 (m.a00 (Enc.rd_lt hf16))), (Enc.rd_agr hf17 (m.a00 (Enc.rd_lt hf17)))⟩) (Enc.rd_agr hp8 (m.a00 (Enc.rd_lt hp8))) hx22) fun e23 w24 hR => ?_
 obtain ⟨v29, F25, rfl, e, hf26, hfr27⟩ := hR
 refine ⟨_, rfl, fun a k => ?_⟩
 have m := m.new e F25 (fun b hb => ⟨hfr27 b hb, Enc.rd_lt (Enc.ow_rd hf26) b hb⟩) (Enc.ow_nd hf26)
 refine sv k rfl (r_len (α := Item) (Enc.ow_rd hf26) k underlying38 rfl rfl) fun a k => pN 1 k rfl fun a k => nn (wp_block (c_loop (fun n a w => ∃ (n51 : Int) (x52 : Int), K 22 [(5, .int .i64 n51), (10, v29), (11, .int .i64 ((x21.length : Int))), (12, .int .i64 x52)] a ∧ St [] w0 w [(F25, w24)] ∧ d_impl_GramOf_L1 fu x21 n n51 x52 = some r) ?_ ?_ fu _ _ ?_))
 · rintro a w ⟨_, _, _, _, h⟩
   exact nS h
 · rintro m53 a w50 ⟨n51, x52, k, m, h⟩
   rw [d_impl_GramOf_L1_s] at h
   unfold d_impl_GramOf_L1_B at h
   refine wr (pN 1 k rfl fun a k => nn (wp_seq (cI h k rfl (fun hb54 h => ?_) fun hb54 h => ?_)))
   · refine wp_skip (nm_then ?_)
     refine wp_seq (wp_block (wr (oE h fun x55 hx56 h => sv k rfl (r_ixa (Enc.ow_rd hf26) hx56 k ts38 rfl rfl rfl) fun a k => sv k rfl (r_lde (Enc.ow_rd hf26) (m.a 0 rfl) hx56 ta120 k rfl rfl) fun a k => s_alloc (cs := [.int .i64 0, .int .i64 0, .int .i64 0, .int .i64 0, .int .i64 0, .int .i64 0, .int .i64 0]) m k zeroValue120 rfl rfl rfl rfl rfl fun b57 w59 a k m e hb58 => s_stb (cs' := [.int .i64 x55.fId, .int .i64 x55.fW, .int .i64 x55.fH, .int .i64 x55.fD, .int .i64 x55.fGram, .int .i64 x55.fClass, .int .i64 x55.fCount]) sizeOf120 m 0 hb58 0 k rfl rfl rfl rfl rfl rfl rfl rfl rfl rfl rfl fun w60 a k e m hb61 => nn (wp_region_lit (pN 1 k rfl fun a k => sv k rfl (r_fa fa120_4 k rfl rfl) fun a k => sv k rfl (r_ldb t13 m 0 hb61 4 k rfl rfl rfl rfl rfl) fun a k => pN 2 k rfl fun a k => wpList_nil (nm_block (nm_then ?_)))))))
     refine wp_region_lit (pN 2 k rfl fun a k => nn ?_)
     exact ⟨w64 (n51 + x55.fGram), w64 (x52 + 1), k.keep [5, 10, 11, 12] rfl, m.sel [1] rfl (by decide), h⟩
   refine wp_exit (ex_then (ex_then (ex_same (nm_then ?_))))
   refine wr (pN 2 k rfl fun a k => nn (wp_ret (fS h k m rfl rfl)))
 exact ⟨0, 0, k.keep [5, 10, 11, 12] rfl, m.sel [0] rfl (by decide), h⟩
theorem c_impl_within (fu : Nat) {w0 : World} (r1 : Request) (content5 : List Int) (t9 : Typ) {cs2 : List Value} {F3 : List Nat} (hp4 : rd w0 F3 cs2 r1) {v6 : Value} {F7 : List Nat} (hp8 : rd w0 F7 [v6] content5) {r : Bool}
    (h : d_impl_within fu r1 content5 t9 = some r) :
    Calls Tryz.prog 157 #[.agg cs2.toArray, v6, .agg (Flat.e (t9)).toArray] w0 fun e w => e = .returned (.bool (r)) ∧ Ext [] w0 w := by
 refine enter (vs := [_, _, _]) func157 rfl ntmps157 rfl fun a k => ?_
 have m := St.start w0
 obtain ⟨v10, F11, v12, F13, v14, F15, rfl, rfl, hf16, hf17, hf18⟩ := hp4
 unfold d_impl_within at h
 refine wr (s_box (cs := [.int .i64 r1.fWay, .int .i64 r1.fPallet.fW, .int .i64 r1.fPallet.fD, .int .i64 r1.fPallet.fH, .int .i64 r1.fPallet.fGram, .int .i64 r1.fClasses, v10, v12, .int .i64 r1.fMaster, v14]) m k rfl rfl rfl rfl rfl rfl fun b19 w21 a k m e hb20 => s_box (cs := [.int .i64 t9.fId, .int .i64 t9.fW, .int .i64 t9.fH, .int .i64 t9.fD, .int .i64 t9.fTare, .int .i64 t9.fGram, .int .i64 t9.fCost]) m k rfl rfl rfl rfl rfl rfl fun b22 w24 a k m e hb23 => pN 1 k rfl fun a k => nn (wp_seq (d_go [] mixo m rfl fun w25 hMd => ?_)))
 have m := hMd
 have s := Ext.refl ([] : List Nat) w25
 refine dt k 0 rfl (by kernel_rfl) rfl s (fun _ _ _ => id) (fun w s => r_ldA ta40 (hb20.at ((hMd.step s).a 1 rfl) 0 10 rfl rfl rfl) rfl k rfl rfl) fun a k => dp k 1 rfl (by kernel_rfl) rfl s (fun _ _ _ => id) rfl fun a k => dt k 3 rfl (by kernel_rfl) rfl s (fun _ _ _ => id) (fun w s => r_fa fa92_1 k rfl rfl) fun a k => dt k 4 rfl (by kernel_rfl) rfl s (fun _ _ _ => id) (fun w s => r_ld1 t13 (r := []) (hb23.at ((hMd.step s).a 0 rfl) 1 1 rfl rfl rfl) k rfl rfl) fun a k => dt k 5 rfl (by kernel_rfl) rfl s (fun _ _ _ => id) (fun w s => r_fa fa92_2 k rfl rfl) fun a k => dt k 6 rfl (by kernel_rfl) rfl s (fun _ _ _ => id) (fun w s => r_ld1 t13 (r := []) (hb23.at ((hMd.step s).a 0 rfl) 2 1 rfl rfl rfl) k rfl rfl) fun a k => dt k 7 rfl (by kernel_rfl) rfl s (fun _ _ _ => id) (fun w s => r_fa fa92_3 k rfl rfl) fun a k => ?_
 refine dt k 8 rfl (by kernel_rfl) rfl s (fun _ _ _ => id) (fun w s => r_ld1 t13 (r := []) (hb23.at ((hMd.step s).a 0 rfl) 3 1 rfl rfl rfl) k rfl rfl) fun a k => d_one 2 (by kernel_rfl) rfl (oE h fun x26 hx27 h => cE k m call77 rfl rfl rfl (c_impl_VolumeOf fu _ _ (show rd _ _ [.int .i64 r1.fWay, .int .i64 r1.fPallet.fW, .int .i64 r1.fPallet.fD, .int .i64 r1.fPallet.fH, .int .i64 r1.fPallet.fGram, .int .i64 r1.fClasses, v10, v12, .int .i64 r1.fMaster, v14] (r1 : Request) from ⟨_, _, _, _, _, _, rfl, rfl, (Enc.rd_agr hf16 (m.a00 (Enc.rd_lt hf16))), (Enc.rd_agr hf17 (m.a00 (Enc.rd_lt hf17))), (Enc.rd_agr hf18 (m.a00 (Enc.rd_lt hf18)))⟩) (Enc.rd_agr hp8 (m.a00 (Enc.rd_lt hp8))) hx27) fun w29 e a k m => ?_)
 have s := s.trans e (by simp)
 refine wpList_nil ⟨s, ?_⟩
 refine d_one 9 (by kernel_rfl) rfl (oE h fun x30 hx31 h => cE k m call78 rfl rfl rfl (c_impl_Volume fu _ _ _  hx31) fun w33 e a k m => ?_)
 have s := s.trans e (by simp)
 refine wpList_nil ⟨s, ?_⟩
 refine dp k 10 rfl (by kernel_rfl) rfl s (fun _ _ _ => id) rfl fun a k => dp k 11 rfl (by kernel_rfl) rfl s (fun _ _ _ => id) rfl fun a k => bsplit (decide (x26 ≤ x30)) (fun hb34 => ?_) (fun hb34 => ?_)
 · have h := bif_t hb34 h
   refine rB k 18 rfl hb34 fun k => dt k 12 rfl (by kernel_rfl) rfl s (fun _ _ _ => id) (fun w s => r_ldA ta40 (hb20.at ((hMd.step s).a 1 rfl) 0 10 rfl rfl rfl) rfl k rfl rfl) fun a k => dp k 13 rfl (by kernel_rfl) rfl s (fun _ _ _ => id) rfl fun a k => dt k 15 rfl (by kernel_rfl) rfl s (fun _ _ _ => id) (fun w s => r_fa fa92_5 k rfl rfl) fun a k => dt k 16 rfl (by kernel_rfl) rfl s (fun _ _ _ => id) (fun w s => r_ld1 t13 (r := []) (hb23.at ((hMd.step s).a 0 rfl) 5 1 rfl rfl rfl) k rfl rfl) fun a k => d_one 14 (by kernel_rfl) rfl (oE h fun x35 hx36 h => ?_)
   refine cE k m call94 rfl rfl rfl (c_impl_GramOf fu _ _ (show rd _ _ [.int .i64 r1.fWay, .int .i64 r1.fPallet.fW, .int .i64 r1.fPallet.fD, .int .i64 r1.fPallet.fH, .int .i64 r1.fPallet.fGram, .int .i64 r1.fClasses, v10, v12, .int .i64 r1.fMaster, v14] (r1 : Request) from ⟨_, _, _, _, _, _, rfl, rfl, (Enc.rd_agr hf16 (m.a00 (Enc.rd_lt hf16))), (Enc.rd_agr hf17 (m.a00 (Enc.rd_lt hf17))), (Enc.rd_agr hf18 (m.a00 (Enc.rd_lt hf18)))⟩) (Enc.rd_agr hp8 (m.a00 (Enc.rd_lt hp8))) hx36) fun w38 e a k m => ?_
   have s := s.trans e (by simp)
   refine wpList_nil ⟨s, ?_⟩
   refine dp k 17 rfl (by kernel_rfl) rfl s (fun _ _ _ => id) rfl fun a k => dp k 18 rfl (by kernel_rfl) rfl s (fun _ _ _ => id) rfl fun a k => dp k 19 rfl (by kernel_rfl) rfl s (fun _ _ _ => id) rfl fun a k => d_done (by kernel_rfl) ((nm_then ?_))
   refine wp_ret (fS h k m rfl rfl)
 have h := bif_f hb34 h
 refine rB k 18 rfl hb34 fun k => ds k 12 rfl (by kernel_rfl) rfl s (fun _ _ _ => id) fun a k => ds k 13 rfl (by kernel_rfl) rfl s (fun _ _ _ => id) fun a k => ds k 14 rfl (by kernel_rfl) rfl s (fun _ _ _ => id) fun a k => ds k 15 rfl (by kernel_rfl) rfl s (fun _ _ _ => id) fun a k => ds k 16 rfl (by kernel_rfl) rfl s (fun _ _ _ => id) fun a k => ds k 17 rfl (by kernel_rfl) rfl s (fun _ _ _ => id) fun a k => dp k 18 rfl (by kernel_rfl) rfl s (fun _ _ _ => id) rfl fun a k => dp k 19 rfl (by kernel_rfl) rfl s (fun _ _ _ => id) rfl fun a k => d_done (by kernel_rfl) ((nm_then ?_))
 refine wp_ret (fS h k m rfl rfl)
theorem c_impl_Room (fu : Nat) {w0 : World} (r1 : Request) (content5 : List Int) (u9 : Int) {cs2 : List Value} {F3 : List Nat} (hp4 : rd w0 F3 cs2 r1) {v6 : Value} {F7 : List Nat} (hp8 : rd w0 F7 [v6] content5) {r : Bool}
    (h : d_impl_Room fu r1 content5 u9 = some r) :
    Calls Tryz.prog 109 #[.agg cs2.toArray, v6, .int .i64 u9] w0 fun e w => e = .returned (.bool (r)) ∧ Ext [] w0 w := by
 refine enter (vs := [_, _, _]) func109 rfl ntmps109 rfl fun a k => ?_
 have m := St.start w0
 obtain ⟨v10, F11, v12, F13, v14, F15, rfl, rfl, hf16, hf17, hf18⟩ := hp4
 unfold d_impl_Room at h
 refine wr (s_box (cs := [.int .i64 r1.fWay, .int .i64 r1.fPallet.fW, .int .i64 r1.fPallet.fD, .int .i64 r1.fPallet.fH, .int .i64 r1.fPallet.fGram, .int .i64 r1.fClasses, v10, v12, .int .i64 r1.fMaster, v14]) m k rfl rfl rfl rfl rfl rfl fun b19 w21 a k m e hb20 => pN 1 k rfl fun a k => nn (wr (sv k rfl (r_ldB ta40 m 0 hb20 0 k rfl rfl rfl rfl rfl rfl) fun a k => oE h fun x22 hx23 h => ?_)))
 refine cE k m call148 rfl rfl rfl (c_impl_MasterOf fu _ (show rd _ _ [.int .i64 r1.fWay, .int .i64 r1.fPallet.fW, .int .i64 r1.fPallet.fD, .int .i64 r1.fPallet.fH, .int .i64 r1.fPallet.fGram, .int .i64 r1.fClasses, v10, v12, .int .i64 r1.fMaster, v14] (r1 : Request) from ⟨_, _, _, _, _, _, rfl, rfl, (Enc.rd_agr hf16 (m.a00 (Enc.rd_lt hf16))), (Enc.rd_agr hf17 (m.a00 (Enc.rd_lt hf17))), (Enc.rd_agr hf18 (m.a00 (Enc.rd_lt hf18)))⟩) hx23) fun w25 e a k m => pN 3 k rfl fun a k => s_alloc (cs := [.int .i64 0, .int .i64 0, .int .i64 0, .int .i64 0, .int .i64 0, .int .i64 0, .int .i64 0]) m k zeroValue92 rfl rfl rfl rfl rfl fun b26 w28 a k m e hb27 => ?_
 refine s_stb (cs' := [.int .i64 x22.1.fId, .int .i64 x22.1.fW, .int .i64 x22.1.fH, .int .i64 x22.1.fD, .int .i64 x22.1.fTare, .int .i64 x22.1.fGram, .int .i64 x22.1.fCost]) sizeOf92 m 0 hb27 0 k rfl rfl rfl rfl rfl rfl rfl rfl rfl rfl rfl fun w29 a k e m hb30 => pN 1 k rfl fun a k => nn (wp_seq (d_go [] mixo m rfl fun w31 hMd => ?_))
 have m := hMd
 have s := Ext.refl ([] : List Nat) w31
 refine dt k 0 rfl (by kernel_rfl) rfl s (fun _ _ _ => id) (fun w s => r_ldA ta40 (hb20.at ((hMd.step s).a 1 rfl) 0 10 rfl rfl rfl) rfl k rfl rfl) fun a k => d_one 1 (by kernel_rfl) rfl (oE h fun x32 hx33 h => cE k m call76 rfl rfl rfl (c_impl_sound fu _ (show rd _ _ [.int .i64 r1.fWay, .int .i64 r1.fPallet.fW, .int .i64 r1.fPallet.fD, .int .i64 r1.fPallet.fH, .int .i64 r1.fPallet.fGram, .int .i64 r1.fClasses, v10, v12, .int .i64 r1.fMaster, v14] (r1 : Request) from ⟨_, _, _, _, _, _, rfl, rfl, (Enc.rd_agr hf16 (m.a00 (Enc.rd_lt hf16))), (Enc.rd_agr hf17 (m.a00 (Enc.rd_lt hf17))), (Enc.rd_agr hf18 (m.a00 (Enc.rd_lt hf18)))⟩) hx33) fun w35 e a k m => ?_)
 have s := s.trans e (by simp)
 refine wpList_nil ⟨s, ?_⟩
 refine dp k 2 rfl (by kernel_rfl) rfl s (fun _ _ _ => id) rfl fun a k => bsplit (x32) (fun hb36 => ?_) (fun hb36 => ?_)
 · have h := bif_t hb36 h
   refine rB k 16 rfl hb36 fun k => dt k 3 rfl (by kernel_rfl) rfl s (fun _ _ _ => id) (fun w s => r_ldA ta40 (hb20.at ((hMd.step s).a 1 rfl) 0 10 rfl rfl rfl) rfl k rfl rfl) fun a k => dp k 4 rfl (by kernel_rfl) rfl s (fun _ _ _ => id) rfl fun a k => dp k 6 rfl (by kernel_rfl) rfl s (fun _ _ _ => id) rfl fun a k => dt k 9 rfl (by kernel_rfl) rfl s (fun _ _ _ => id) (fun w s => r_ldA ta92 (hb30.at ((hMd.step s).a 0 rfl) 0 7 rfl rfl rfl) rfl k rfl rfl) fun a k => d_two 5 7 (by kernel_rfl) rfl rfl ?_ ?_ 
   · refine oE h fun x37 hx38 h => s_call k call158 rfl rfl rfl rfl rfl (c_slices_Clone_int_int fu _ (Enc.rd_agr hp8 (m.a00 (Enc.rd_lt hp8))) hx38) fun e39 w40 hR => ?_
     obtain ⟨v45, F41, rfl, e, hf42, hfr43⟩ := hR
     refine ⟨_, rfl, fun a k => ?_⟩
     have m := m.new e F41 (fun b hb => ⟨hfr43 b hb, Enc.rd_lt (Enc.ow_rd hf42) b hb⟩) (Enc.ow_nd hf42)
     have hlo46 := fun (y : Nat) (hy : y ∈ F41) => Nat.le_trans s.size (hfr43 y hy)
     have s := s.trans e (by simp)
     refine wpList_nil ⟨s, ?_⟩
     refine d_one 7 (by kernel_rfl) rfl (s_bsN (cs := [.int .i64 u9]) (ps := [(0, .tmp 20)]) te29 m k rfl rfl rfl rfl rfl rfl rfl (by decide) rfl (by exact (List.forall_mem_cons.2 ⟨rfl, (List.forall_mem_nil _)⟩)) fun g47 w48 e50 a k m e hb49 hgn51 => ?_)
     have hlo53 := lo1 (Nat.le_trans s.size hgn51)
     have hf52 := ow_bx hb49 ([u9] : List Int) rfl rfl rfl
     have s := s.trans e (by simp)
     refine wpList_nil ⟨s, ?_⟩
     refine d_one 8 (by kernel_rfl) rfl (oE h fun x54 hx55 h => s_appFN hx55 te29 rfl m 1 hf42 (News.rd (Enc.rd_agr (Enc.ow_rd hf52) (m.a 0 rfl))) rfl rfl k rfl rfl rfl rfl rfl rfl rfl fun v56 F57 w58 a k e m hf59 hap60 => ?_)
     have hlo61 : ∀ y ∈ F57, y ∈ [] ∨ _ ≤ y := fun y hy => (hap60 y hy).elim (fun hy => (fun y hy => Or.inr (hlo46 y hy)) y hy) (fun h => Or.inr (Nat.le_trans s.size h))
     have s := s.trans e (fun y hy => Or.inr (hlo46 y hy))
     refine wpList_nil ⟨s, ?_⟩
     refine d_one 10 (by kernel_rfl) rfl (oE h fun x62 hx63 h => cE k m call157 rfl rfl rfl (c_impl_within fu _ _ (x22.1 : Typ) (show rd _ _ [.int .i64 r1.fWay, .int .i64 r1.fPallet.fW, .int .i64 r1.fPallet.fD, .int .i64 r1.fPallet.fH, .int .i64 r1.fPallet.fGram, .int .i64 r1.fClasses, v10, v12, .int .i64 r1.fMaster, v14] (r1 : Request) from ⟨_, _, _, _, _, _, rfl, rfl, (Enc.rd_agr hf16 (m.a00 (Enc.rd_lt hf16))), (Enc.rd_agr hf17 (m.a00 (Enc.rd_lt hf17))), (Enc.rd_agr hf18 (m.a00 (Enc.rd_lt hf18)))⟩) (Enc.rd_agr (Enc.ow_rd hf59) (m.a 1 rfl)) hx63) fun w65 e a k m => ?_)
     have s := s.trans e (by simp)
     refine wpList_nil ⟨s, ?_⟩
     refine dp k 11 rfl (by kernel_rfl) rfl s (fun _ _ _ => id) rfl fun a k => dp k 12 rfl (by kernel_rfl) rfl s (fun _ _ _ => id) rfl fun a k => d_done (by kernel_rfl) ((nm_then ?_))
     refine wp_ret (fS h k m rfl rfl)
   refine s_bsN (cs := [.int .i64 u9]) (ps := [(0, .tmp 20)]) te29 m k rfl rfl rfl rfl rfl rfl rfl (by decide) rfl (by exact (List.forall_mem_cons.2 ⟨rfl, (List.forall_mem_nil _)⟩)) fun g66 w67 e69 a k m e hb68 hgn70 => ?_
   have hlo72 := lo1 (Nat.le_trans s.size hgn70)
   have hf71 := ow_bx hb68 ([u9] : List Int) rfl rfl rfl
   have s := s.trans e (by simp)
   refine wpList_nil ⟨s, ?_⟩
   refine d_one 5 (by kernel_rfl) rfl (oE h fun x73 hx74 h => s_call k call158 rfl rfl rfl rfl rfl (c_slices_Clone_int_int fu _ (Enc.rd_agr hp8 (m.a00 (Enc.rd_lt hp8))) hx74) fun e75 w76 hR => ?_)
   obtain ⟨v81, F77, rfl, e, hf78, hfr79⟩ := hR
   refine ⟨_, rfl, fun a k => ?_⟩
   have m := m.new e F77 (fun b hb => ⟨hfr79 b hb, Enc.rd_lt (Enc.ow_rd hf78) b hb⟩) (Enc.ow_nd hf78)
   have hlo82 := fun (y : Nat) (hy : y ∈ F77) => Nat.le_trans s.size (hfr79 y hy)
   have s := s.trans e (by simp)
   refine wpList_nil ⟨s, ?_⟩
   refine d_one 8 (by kernel_rfl) rfl (oE h fun x83 hx84 h => s_appFN hx84 te29 rfl m 0 hf78 (News.rd (Enc.rd_agr (Enc.ow_rd hf71) (m.a 1 rfl))) rfl rfl k rfl rfl rfl rfl rfl rfl rfl fun v85 F86 w87 a k e m hf88 hap89 => ?_)
   have hlo90 : ∀ y ∈ F86, y ∈ [] ∨ _ ≤ y := fun y hy => (hap89 y hy).elim (fun hy => (fun y hy => Or.inr (hlo82 y hy)) y hy) (fun h => Or.inr (Nat.le_trans s.size h))
   have s := s.trans e (fun y hy => Or.inr (hlo82 y hy))
   refine wpList_nil ⟨s, ?_⟩
   refine d_one 10 (by kernel_rfl) rfl (oE h fun x91 hx92 h => cE k m call157 rfl rfl rfl (c_impl_within fu _ _ (x22.1 : Typ) (show rd _ _ [.int .i64 r1.fWay, .int .i64 r1.fPallet.fW, .int .i64 r1.fPallet.fD, .int .i64 r1.fPallet.fH, .int .i64 r1.fPallet.fGram, .int .i64 r1.fClasses, v10, v12, .int .i64 r1.fMaster, v14] (r1 : Request) from ⟨_, _, _, _, _, _, rfl, rfl, (Enc.rd_agr hf16 (m.a00 (Enc.rd_lt hf16))), (Enc.rd_agr hf17 (m.a00 (Enc.rd_lt hf17))), (Enc.rd_agr hf18 (m.a00 (Enc.rd_lt hf18)))⟩) (Enc.rd_agr (Enc.ow_rd hf88) (m.a 0 rfl)) hx92) fun w94 e a k m => ?_)
   have s := s.trans e (by simp)
   refine wpList_nil ⟨s, ?_⟩
   refine dp k 11 rfl (by kernel_rfl) rfl s (fun _ _ _ => id) rfl fun a k => dp k 12 rfl (by kernel_rfl) rfl s (fun _ _ _ => id) rfl fun a k => d_done (by kernel_rfl) ((nm_then ?_))
   refine wp_ret (fS h k m rfl rfl)
 have h := bif_f hb36 h
 refine rB k 16 rfl hb36 fun k => ds k 3 rfl (by kernel_rfl) rfl s (fun _ _ _ => id) fun a k => ds k 4 rfl (by kernel_rfl) rfl s (fun _ _ _ => id) fun a k => ds k 5 rfl (by kernel_rfl) rfl s (fun _ _ _ => id) fun a k => ds k 6 rfl (by kernel_rfl) rfl s (fun _ _ _ => id) fun a k => ds k 7 rfl (by kernel_rfl) rfl s (fun _ _ _ => id) fun a k => ds k 8 rfl (by kernel_rfl) rfl s (fun _ _ _ => id) fun a k => ds k 9 rfl (by kernel_rfl) rfl s (fun _ _ _ => id) fun a k => ds k 10 rfl (by kernel_rfl) rfl s (fun _ _ _ => id) fun a k => dp k 11 rfl (by kernel_rfl) rfl s (fun _ _ _ => id) rfl fun a k => dp k 12 rfl (by kernel_rfl) rfl s (fun _ _ _ => id) rfl fun a k => d_done (by kernel_rfl) ((nm_then ?_))
 refine wp_ret (fS h k m rfl rfl)
theorem c_impl_mutual (fu : Nat) {w0 : World} (pairs1 : List Pair) (a5 : Int) (b6 : Int) {v2 : Value} {F3 : List Nat} (hp4 : rd w0 F3 [v2] pairs1) {r : Bool}
    (h : d_impl_mutual fu pairs1 a5 b6 = some r) :
    Calls Tryz.prog 161 #[v2, .int .i64 a5, .int .i64 b6] w0 fun e w => e = .returned (.bool (r)) ∧ Ext [] w0 w := by
 refine enter (vs := [_, _, _]) func161 rfl ntmps161 rfl fun a k => ?_
 have m := St.start w0
 unfold d_impl_mutual at h
 refine wr (pN 1 k rfl fun a k => nn (wr (pN 3 k rfl fun a k => oE h fun x7 hx8 h => cE k m call192 rfl rfl rfl (c_impl_Beside fu _ _ _ (Enc.rd_agr hp4 (m.a00 (Enc.rd_lt hp4))) hx8) fun w10 e a k m => pN 1 k rfl fun a k => bsplit (x7) (fun hb11 => ?_) (fun hb11 => ?_))))
 · have h := bif_t hb11 h
   refine rB k 11 rfl hb11 fun k => pN 3 k rfl fun a k => oE h fun x12 hx13 h => cE k m call192 rfl rfl rfl (c_impl_Beside fu _ _ _ (Enc.rd_agr hp4 (m.a00 (Enc.rd_lt hp4))) hx13) fun w15 e a k m => pN 2 k rfl fun a k => nn (wp_ret (fS h k m rfl rfl))
 have h := bif_f hb11 h
 refine rB k 11 rfl hb11 fun k => pN 6 k rfl fun a k => nn (wp_ret (fS h k m rfl rfl))
theorem c_impl_mayLie_1_1 (fu : Nat) {w0 : World} (y1 : Item) (x2 : Request) (x14 : Item) {v5 : Value} {F6 : List Nat} {v8 : Value} {F9 : List Nat} {v11 : Value} {F12 : List Nat} {b3 : Nat} (hp4 : bx w0 b3 [.int .i64 x2.fWay, .int .i64 x2.fPallet.fW, .int .i64 x2.fPallet.fD, .int .i64 x2.fPallet.fH, .int .i64 x2.fPallet.fGram, .int .i64 x2.fClasses, v5, v8, .int .i64 x2.fMaster, v11] 40) (hp7 : rd w0 F6 [v5] x2.fPairs) (hp10 : rd w0 F9 [v8] x2.fTypes) (hp13 : rd w0 F12 [v11] x2.fItems) {b15 : Nat} (hp16 : bx w0 b15 [.int .i64 x14.fId, .int .i64 x14.fW, .int .i64 x14.fH, .int .i64 x14.fD, .int .i64 x14.fGram, .int .i64 x14.fClass, .int .i64 x14.fCount] 120) {r : Bool}
    (h : d_impl_mayLie_1_1 fu y1 x2 x14 = some r) :
    Calls Tryz.prog 160 #[.agg (Flat.e (y1)).toArray, .pointer (some (⟨b3, 0, none⟩ : Addr)), .pointer (some (⟨b15, 0, none⟩ : Addr))] w0 fun e w => e = .returned (.bool (r)) ∧ Ext [] w0 w := by
 refine enter (vs := [_, _, _]) func160 rfl ntmps160 rfl fun a k => ?_
 have m := St.start w0
 unfold d_impl_mayLie_1_1 at h
 refine wr (s_box (cs := [.int .i64 y1.fId, .int .i64 y1.fW, .int .i64 y1.fH, .int .i64 y1.fD, .int .i64 y1.fGram, .int .i64 y1.fClass, .int .i64 y1.fCount]) m k rfl rfl rfl rfl rfl rfl fun b17 w19 a k m e hb18 => pN 1 k rfl fun a k => nn (wr (sv k rfl (r_fa fa40_3 k rfl rfl) fun a k => sv k rfl (r_ld1 t136 (r := []) (hp4.at (m.a00 hp4.lt1) 6 1 rfl rfl rfl) k rfl rfl) fun a k => sv k rfl (r_fa fa120_5 k rfl rfl) fun a k => sv k rfl (r_ld1 t13 (r := []) (hp16.at (m.a00 hp16.lt1) 5 1 rfl rfl rfl) k rfl rfl) fun a k => sv k rfl (r_fa fa120_5 k rfl rfl) fun a k => sv k rfl (r_ldb t13 m 0 hb18 5 k rfl rfl rfl rfl rfl) fun a k => oE h fun x20 hx21 h => cE k m call161 rfl rfl rfl (c_impl_mutual fu _ _ _ (Enc.rd_agr hp7 (m.a00 (Enc.rd_lt hp7))) hx21) fun w23 e a k m => pN 2 k rfl fun a k => nn (wp_ret (fS h k m rfl rfl)))))
theorem c_impl_mayLie_1 (fu : Nat) {w0 : World} (x1 : Item) (x2 : List Item) (x8 : Request) {v5 : Value} {F6 : List Nat} {b3 : Nat} (hp4 : bx w0 b3 [v5] 38) (hp7 : rd w0 F6 [v5] x2) {v11 : Value} {F12 : List Nat} {v14 : Value} {F15 : List Nat} {v17 : Value} {F18 : List Nat} {b9 : Nat} (hp10 : bx w0 b9 [.int .i64 x8.fWay, .int .i64 x8.fPallet.fW, .int .i64 x8.fPallet.fD, .int .i64 x8.fPallet.fH, .int .i64 x8.fPallet.fGram, .int .i64 x8.fClasses, v11, v14, .int .i64 x8.fMaster, v17] 40) (hp13 : rd w0 F12 [v11] x8.fPairs) (hp16 : rd w0 F15 [v14] x8.fTypes) (hp19 : rd w0 F18 [v17] x8.fItems) {r : Bool}
    (h : d_impl_mayLie_1 fu x1 x2 x8 = some r) :
    Calls Tryz.prog 159 #[.agg (Flat.e (x1)).toArray, .pointer (some (⟨b3, 0, none⟩ : Addr)), .pointer (some (⟨b9, 0, none⟩ : Addr))] w0 fun e w => e = .returned (.bool (r)) ∧ Ext [] w0 w := by
 refine enter (vs := [_, _, _]) func159 rfl ntmps159 rfl fun a k => ?_
 have m := St.start w0
 unfold d_impl_mayLie_1 at h
 refine wr (s_box (cs := [.int .i64 x1.fId, .int .i64 x1.fW, .int .i64 x1.fH, .int .i64 x1.fD, .int .i64 x1.fGram, .int .i64 x1.fClass, .int .i64 x1.fCount]) m k rfl rfl rfl rfl rfl rfl fun b20 w22 a k m e hb21 => pN 1 k rfl fun a k => nn (wr (sv k rfl (r_ld1 t138 (r := []) (hp4.at (m.a00 hp4.lt1) 0 1 rfl rfl rfl) k rfl rfl) fun a k => pN 1 k rfl fun a k => oE h fun x26 hx27 h => ?_)))
 refine cE k m call151 rfl rfl rfl (c_slices_ContainsFunc_impl_Item_impl_Item fu _ _ (Enc.rd_agr hp7 (m.a00 (Enc.rd_lt hp7))) ⟨160, [.pointer (some (⟨b9, 0, none⟩ : Addr)), .pointer (some (⟨b20, 0, none⟩ : Addr))], rfl, call160, fun w y23 v24 r e hv25 hx => by subst hv25; have m := m.step e; exact c_impl_mayLie_1_1 fu _ _ _ (hp10.agr (m.a00 hp10.lt1) (by simp)) (Enc.rd_agr hp13 (m.a00 (Enc.rd_lt hp13))) (Enc.rd_agr hp16 (m.a00 (Enc.rd_lt hp16))) (Enc.rd_agr hp19 (m.a00 (Enc.rd_lt hp19))) (hb21.agr (m.a 0 rfl) (by simp)) hx⟩ hx27) fun w29 e a k m => pN 1 k rfl fun a k => nn (wp_ret (fS h k m rfl rfl))
theorem c_impl_mayLie (fu : Nat) {w0 : World} (r1 : Request) (content5 : List Int) (u9 : Int) {cs2 : List Value} {F3 : List Nat} (hp4 : rd w0 F3 cs2 r1) {v6 : Value} {F7 : List Nat} (hp8 : rd w0 F7 [v6] content5) {r : Bool}
    (h : d_impl_mayLie fu r1 content5 u9 = some r) :
    Calls Tryz.prog 110 #[.agg cs2.toArray, v6, .int .i64 u9] w0 fun e w => e = .returned (.bool (r)) ∧ Ext [] w0 w := by
 refine enter (vs := [_, _, _]) func110 rfl ntmps110 rfl fun a k => ?_
 have m := St.start w0
 obtain ⟨v10, F11, v12, F13, v14, F15, rfl, rfl, hf16, hf17, hf18⟩ := hp4
 unfold d_impl_mayLie at h
 refine wr (s_box (cs := [.int .i64 r1.fWay, .int .i64 r1.fPallet.fW, .int .i64 r1.fPallet.fD, .int .i64 r1.fPallet.fH, .int .i64 r1.fPallet.fGram, .int .i64 r1.fClasses, v10, v12, .int .i64 r1.fMaster, v14]) m k rfl rfl rfl rfl rfl rfl fun b19 w21 a k m e hb20 => pN 1 k rfl fun a k => nn (wr (sv k rfl (r_ldB ta40 m 0 hb20 0 k rfl rfl rfl rfl rfl rfl) fun a k => pN 1 k rfl fun a k => s_bs (cs := [.int .i64 u9]) (ps := [(0, .tmp 9)]) te29 m k rfl rfl rfl rfl rfl rfl rfl (by decide) rfl (by exact (List.forall_mem_cons.2 ⟨rfl, (List.forall_mem_nil _)⟩)) fun g22 w23 e25 a k m e hb24 => ?_)))
 have hf26 := ow_bx hb24 ([u9] : List Int) rfl rfl rfl
 refine oE h fun x27 hx28 h => s_call k call143 rfl rfl rfl rfl rfl (c_impl_itemsOf fu _ _ (show rd _ _ [.int .i64 r1.fWay, .int .i64 r1.fPallet.fW, .int .i64 r1.fPallet.fD, .int .i64 r1.fPallet.fH, .int .i64 r1.fPallet.fGram, .int .i64 r1.fClasses, v10, v12, .int .i64 r1.fMaster, v14] (r1 : Request) from ⟨_, _, _, _, _, _, rfl, rfl, (Enc.rd_agr hf16 (m.a00 (Enc.rd_lt hf16))), (Enc.rd_agr hf17 (m.a00 (Enc.rd_lt hf17))), (Enc.rd_agr hf18 (m.a00 (Enc.rd_lt hf18)))⟩) (Enc.rd_agr (Enc.ow_rd hf26) (m.a 0 rfl)) hx28) fun e29 w30 hR => ?_
 obtain ⟨v35, F31, rfl, e, hf32, hfr33⟩ := hR
 refine ⟨_, rfl, fun a k => ?_⟩
 have m := m.new e F31 (fun b hb => ⟨hfr33 b hb, Enc.rd_lt (Enc.ow_rd hf32) b hb⟩) (Enc.ow_nd hf32)
 refine s_alloc (cs := [.slice none 0 0]) m k zeroValue38 rfl rfl rfl rfl rfl fun b36 w38 a k m e hb37 => s_stb1 (cs' := [v35]) sizeOf38 m 0 hb37 0 k (rd_c (Enc.ow_rd hf32)) (rd_o (Enc.ow_rd hf32)) rfl rfl rfl rfl rfl rfl rfl rfl rfl fun w39 a k e m hb40 => nn (wr (sv k rfl (r_ldB ta40 m 3 hb20 0 k rfl rfl rfl rfl rfl rfl) fun a k => pN 1 k rfl fun a k => oE h fun x41 hx42 h => ?_))
 refine s_call k call143 rfl rfl rfl rfl rfl (c_impl_itemsOf fu _ _ (show rd _ _ [.int .i64 r1.fWay, .int .i64 r1.fPallet.fW, .int .i64 r1.fPallet.fD, .int .i64 r1.fPallet.fH, .int .i64 r1.fPallet.fGram, .int .i64 r1.fClasses, v10, v12, .int .i64 r1.fMaster, v14] (r1 : Request) from ⟨_, _, _, _, _, _, rfl, rfl, (Enc.rd_agr hf16 (m.a00 (Enc.rd_lt hf16))), (Enc.rd_agr hf17 (m.a00 (Enc.rd_lt hf17))), (Enc.rd_agr hf18 (m.a00 (Enc.rd_lt hf18)))⟩) (Enc.rd_agr hp8 (m.a00 (Enc.rd_lt hp8))) hx42) fun e43 w44 hR => ?_
 obtain ⟨v49, F45, rfl, e, hf46, hfr47⟩ := hR
 refine ⟨_, rfl, fun a k => ?_⟩
 have m := m.new e F45 (fun b hb => ⟨hfr47 b hb, Enc.rd_lt (Enc.ow_rd hf46) b hb⟩) (Enc.ow_nd hf46)
 refine pN 1 k rfl fun a k => oE h fun x53 hx54 h => cE k m call151 rfl rfl rfl (c_slices_ContainsFunc_impl_Item_impl_Item fu _ _ (Enc.rd_agr (Enc.ow_rd hf46) (m.a 0 rfl)) ⟨159, [.pointer (some (⟨b36, 0, none⟩ : Addr)), .pointer (some (⟨b19, 0, none⟩ : Addr))], rfl, call159, fun w y50 v51 r e hv52 hx => by subst hv52; have m := m.step e; exact c_impl_mayLie_1 fu _ _ _ (hb40.agr (m.a 1 rfl) (by simp)) (Enc.rd_agr (Enc.ow_rd hf32) (m.a 2 rfl)) (hb20.agr (m.a 4 rfl) (by simp)) (Enc.rd_agr hf16 (m.a00 (Enc.rd_lt hf16))) (Enc.rd_agr hf17 (m.a00 (Enc.rd_lt hf17))) (Enc.rd_agr hf18 (m.a00 (Enc.rd_lt hf18))) hx⟩ hx54) fun w56 e a k m => pN 2 k rfl fun a k => nn (wp_ret (fS h k m rfl rfl))
theorem c_impl_RivalBy (fu : Nat) {w0 : World} (r1 : Request) (picks5 : List Int) {cs2 : List Value} {F3 : List Nat} (hp4 : rd w0 F3 cs2 r1) {v6 : Value} {F7 : List Nat} (hp8 : rd w0 F7 [v6] picks5) {r : (List (List Int))}
    (h : d_impl_RivalBy fu r1 picks5 = some r) :
    Calls Tryz.prog 50 #[.agg cs2.toArray, v6] w0 fun e w => ∃ (v0 : Value) (G0 : List Nat), e = .returned (v0) ∧ Ext [] w0 w ∧ ow w G0 [v0] r ∧ (∀ b ∈ G0, w0.heap.size ≤ b) := by
 refine enter (vs := [_, _]) func50 rfl ntmps50 rfl fun a k => ?_
 have m := St.start w0
 obtain ⟨v9, F10, v11, F12, v13, F14, rfl, rfl, hf15, hf16, hf17⟩ := hp4
 unfold d_impl_RivalBy at h
 refine wr (s_box (cs := [.int .i64 r1.fWay, .int .i64 r1.fPallet.fW, .int .i64 r1.fPallet.fD, .int .i64 r1.fPallet.fH, .int .i64 r1.fPallet.fGram, .int .i64 r1.fClasses, v9, v11, .int .i64 r1.fMaster, v13]) m k rfl rfl rfl rfl rfl rfl fun b18 w20 a k m e hb19 => pN 1 k rfl fun a k => nn (wr (s_bs (cs := []) (ps := []) te47 m k rfl rfl rfl rfl rfl rfl rfl (by decide) rfl (by exact (List.forall_mem_nil _)) fun g21 w22 e24 a k m e hb23 => ?_)))
 have hf25 := ow_bx0 (α := List Int) hb23
 refine pN 1 k rfl fun a k => nn (wp_seq (wr (sv k rfl (r_ldB ta40 m 1 hb19 0 k rfl rfl rfl rfl rfl rfl) fun a k => oE h fun x26 hx27 h => s_call k call84 rfl rfl rfl rfl rfl (c_impl_Units fu _ (show rd _ _ [.int .i64 r1.fWay, .int .i64 r1.fPallet.fW, .int .i64 r1.fPallet.fD, .int .i64 r1.fPallet.fH, .int .i64 r1.fPallet.fGram, .int .i64 r1.fClasses, v9, v11, .int .i64 r1.fMaster, v13] (r1 : Request) from ⟨_, _, _, _, _, _, rfl, rfl, (Enc.rd_agr hf15 (m.a00 (Enc.rd_lt hf15))), (Enc.rd_agr hf16 (m.a00 (Enc.rd_lt hf16))), (Enc.rd_agr hf17 (m.a00 (Enc.rd_lt hf17)))⟩) hx27) fun e28 w29 hR => ?_)))
 obtain ⟨v34, F30, rfl, e, hf31, hfr32⟩ := hR
 refine ⟨_, rfl, fun a k => ?_⟩
 have m := m.new e F30 (fun b hb => ⟨hfr32 b hb, Enc.rd_lt (Enc.ow_rd hf31) b hb⟩) (Enc.ow_nd hf31)
 refine sv k rfl (r_len (α := Int) (Enc.ow_rd hf31) k underlying29 rfl rfl) fun a k => pN 1 k rfl fun a k => nn (wp_block (c_loop (fun n a w => ∃ (u1460 : World) (out1462 : List (List Int)) (v1463 : Value) (F1464 : List Nat) (u1465 : World) (x1467 : Int), K 88 [(1, v6), (2, .pointer (some (⟨b18, 0, none⟩ : Addr))), (5, v1463), (16, .int .i64 ((x26.length : Int))), (17, .int .i64 x1467)] a ∧ St [] w0 w [([b18], u1460), (F1464, u1465)] ∧ bx u1460 b18 [.int .i64 r1.fWay, .int .i64 r1.fPallet.fW, .int .i64 r1.fPallet.fD, .int .i64 r1.fPallet.fH, .int .i64 r1.fPallet.fGram, .int .i64 r1.fClasses, v9, v11, .int .i64 r1.fMaster, v13] 40 ∧ ow u1465 F1464 [v1463] out1462 ∧ d_impl_RivalBy_L2 fu r1 picks5 x26 n out1462 x1467 = some r) ?_ ?_ fu _ _ ?_))
 · rintro a w ⟨_, _, _, _, _, _, _, _, _, _, h⟩
   exact nS h
 · rintro m1468 a w1459 ⟨u1460, out1462, v1463, F1464, u1465, x1467, k, m, hb1461, hf1466, h⟩
   rw [d_impl_RivalBy_L2_s] at h
   unfold d_impl_RivalBy_L2_B at h
   refine wr (pN 1 k rfl fun a k => nn (wp_seq (cI h k rfl (fun hb1469 h => ?_) fun hb1469 h => ?_)))
   · refine wp_skip (nm_then ?_)
     refine c_cut (fun a w => ∃ (u1820 : World) (out1822 : List (List Int)) (v1823 : Value) (F1824 : List Nat) (u1825 : World), K 88 [(1, v6), (2, .pointer (some (⟨b18, 0, none⟩ : Addr))), (5, v1823), (16, .int .i64 ((x26.length : Int))), (17, .int .i64 x1467)] a ∧ St [] w0 w [([b18], u1820), (F1824, u1825)] ∧ bx u1820 b18 [.int .i64 r1.fWay, .int .i64 r1.fPallet.fW, .int .i64 r1.fPallet.fD, .int .i64 r1.fPallet.fH, .int .i64 r1.fPallet.fGram, .int .i64 r1.fClasses, v9, v11, .int .i64 r1.fMaster, v13] 40 ∧ ow u1825 F1824 [v1823] out1822 ∧ d_impl_RivalBy_J1 fu (d_impl_RivalBy_L2 fu r1 picks5 x26 m1468) x1467 out1822 = some r) ?_ ?_
     · rintro a w1819 ⟨u1820, out1822, v1823, F1824, u1825, k, m, hb1821, hf1826, h⟩
       unfold d_impl_RivalBy_J1 at h
       refine wp_region_lit (pN 2 k rfl fun a k => nn ?_)
       exact ⟨u1820, out1822, v1823, F1824, u1825, w64 (x1467 + 1), k.keep [1, 2, 5, 16, 17] rfl, m.sel [0, 1] rfl (by decide), hb1821, hf1826, h⟩
     refine wp_block (wr (pN 2 k rfl fun a k => nn (wr (pN 1 k rfl fun a k => nn (c_cut (fun a w => ∃ (pick1831 : Int), K 88 [(1, v6), (2, .pointer (some (⟨b18, 0, none⟩ : Addr))), (5, v1463), (6, .int .i64 x1467), (7, .int .i64 pick1831), (16, .int .i64 ((x26.length : Int))), (17, .int .i64 x1467)] a ∧ St [] w0 w [([b18], u1460), (F1464, u1465)] ∧ d_impl_RivalBy_J3 fu (d_impl_RivalBy_L2 fu r1 picks5 x26 m1468) r1 out1462 x1467 pick1831 = some r) ?_ ?_)))))
     · rintro a w1830 ⟨pick1831, k, m, h⟩
       unfold d_impl_RivalBy_J3 at h
       refine wr (s_bs (cs := []) (ps := []) te29 m k rfl rfl rfl rfl rfl rfl rfl (by decide) rfl (by exact (List.forall_mem_nil _)) fun g1832 w1833 e1835 a k m e hb1834 => ?_)
       have hf1836 := ow_bx hb1834 ([] : List Int) rfl rfl rfl
       refine pN 1 k rfl fun a k => nn (wp_seq (wr (pN 1 k rfl fun a k => sv k rfl (r_len (α := List Int) (Enc.ow_rd hf1466) k underlying47 rfl rfl) fun a k => pN 1 k rfl fun a k => nn (wp_block (c_loop (fun n a w => ∃ (list1980 : List Int) (v1981 : Value) (F1982 : List Nat) (u1983 : World) (x1985 : Int), K 88 [(1, v6), (2, .pointer (some (⟨b18, 0, none⟩ : Addr))), (5, v1463), (6, .int .i64 x1467), (7, .int .i64 pick1831), (8, v1981), (16, .int .i64 ((x26.length : Int))), (17, .int .i64 x1467), (29, v1463), (30, .int .i64 ((out1462.length : Int))), (31, .int .i64 x1985)] a ∧ St [] w0 w [([b18], u1460), (F1464, u1465), (F1982, u1983)] ∧ ow u1983 F1982 [v1981] list1980 ∧ d_impl_RivalBy_L1 fu (d_impl_RivalBy_L2 fu r1 picks5 x26 m1468) r1 out1462 x1467 pick1831 n list1980 x1985 = some r) ?_ ?_ fu _ _ ?_)))))
       · rintro a w ⟨_, _, _, _, _, _, _, _, h⟩
         exact nS h
       · rintro m1986 a w1979 ⟨list1980, v1981, F1982, u1983, x1985, k, m, hf1984, h⟩
         rw [d_impl_RivalBy_L1_s] at h
         unfold d_impl_RivalBy_L1_B at h
         refine wr (pN 1 k rfl fun a k => nn (wp_seq (cI h k rfl (fun hb1987 h => ?_) fun hb1987 h => ?_)))
         · refine wp_skip (nm_then ?_)
           refine c_cut (fun a w => ∃ (list2019 : List Int) (v2020 : Value) (F2021 : List Nat) (u2022 : World), K 88 [(1, v6), (2, .pointer (some (⟨b18, 0, none⟩ : Addr))), (5, v1463), (6, .int .i64 x1467), (7, .int .i64 pick1831), (8, v2020), (16, .int .i64 ((x26.length : Int))), (17, .int .i64 x1467), (29, v1463), (30, .int .i64 ((out1462.length : Int))), (31, .int .i64 x1985)] a ∧ St [] w0 w [([b18], u1460), (F1464, u1465), (F2021, u2022)] ∧ ow u2022 F2021 [v2020] list2019 ∧ d_impl_RivalBy_J2 fu (d_impl_RivalBy_L1 fu (d_impl_RivalBy_L2 fu r1 picks5 x26 m1468) r1 out1462 x1467 pick1831 m1986) x1985 list2019 = some r) ?_ ?_
           · rintro a w2018 ⟨list2019, v2020, F2021, u2022, k, m, hf2023, h⟩
             unfold d_impl_RivalBy_J2 at h
             refine wp_region_lit (pN 2 k rfl fun a k => nn ?_)
             exact ⟨list2019, v2020, F2021, u2022, w64 (x1985 + 1), k.keep [1, 2, 5, 6, 7, 8, 16, 17, 29, 30, 31] rfl, m.sel [0, 1, 2] rfl (by decide), hf2023, h⟩
           refine wp_block (wr (pN 1 k rfl fun a k => oE h fun x2024 hx2025 h => sv k rfl (r_ixa (Enc.ow_rd hf1466) hx2025 k ts47 rfl rfl rfl) fun a k => ?_))
           obtain ⟨G2026, cs2027, hG2028, hr2029, hp2030, hb2031⟩ := rd_get (Enc.ow_rd hf1466) (ix_some hx2025).2.2
           obtain ⟨v2032, rfl⟩ : ∃ v, cs2027 = [v] := by obtain ⟨_, _, hq, _⟩ := hr2029; exact ⟨_, hq⟩
           refine sv k rfl (r_ld1 t129 (hp2030.agr (m.a 1 rfl) hb2031) k rfl rfl) fun a k => pN 2 k rfl fun a k => nn (wr (sv k rfl (r_ldB ta40 m 0 hb1461 0 k rfl rfl rfl rfl rfl rfl) fun a k => pN 2 k rfl fun a k => oE h fun x2033 hx2034 h => cE k m call109 rfl rfl rfl (c_impl_Room fu _ _ _ (show rd _ _ [.int .i64 r1.fWay, .int .i64 r1.fPallet.fW, .int .i64 r1.fPallet.fD, .int .i64 r1.fPallet.fH, .int .i64 r1.fPallet.fGram, .int .i64 r1.fClasses, v9, v11, .int .i64 r1.fMaster, v13] (r1 : Request) from ⟨_, _, _, _, _, _, rfl, rfl, (Enc.rd_agr hf15 (m.a00 (Enc.rd_lt hf15))), (Enc.rd_agr hf16 (m.a00 (Enc.rd_lt hf16))), (Enc.rd_agr hf17 (m.a00 (Enc.rd_lt hf17)))⟩) (Enc.rd_agr hr2029 ((m.a 1 rfl).sub hG2028)) hx2034) fun w2036 e a k m => pN 1 k rfl fun a k => bsplit (x2033) (fun hb2037 => ?_) (fun hb2037 => ?_)))
           · have h := bif_t hb2037 h
             refine rB k 40 rfl hb2037 fun k => sv k rfl (r_ldB ta40 m 0 hb1461 0 k rfl rfl rfl rfl rfl rfl) fun a k => pN 2 k rfl fun a k => oE h fun x2038 hx2039 h => cE k m call110 rfl rfl rfl (c_impl_mayLie fu _ _ _ (show rd _ _ [.int .i64 r1.fWay, .int .i64 r1.fPallet.fW, .int .i64 r1.fPallet.fD, .int .i64 r1.fPallet.fH, .int .i64 r1.fPallet.fGram, .int .i64 r1.fClasses, v9, v11, .int .i64 r1.fMaster, v13] (r1 : Request) from ⟨_, _, _, _, _, _, rfl, rfl, (Enc.rd_agr hf15 (m.a00 (Enc.rd_lt hf15))), (Enc.rd_agr hf16 (m.a00 (Enc.rd_lt hf16))), (Enc.rd_agr hf17 (m.a00 (Enc.rd_lt hf17)))⟩) (Enc.rd_agr hr2029 ((m.a 1 rfl).sub hG2028)) hx2039) fun w2041 e a k m => pN 1 k rfl fun a k => nn (cI h k rfl (fun hb2042 h => ?_) fun hb2042 h => ?_)
             · refine wp_region_lit (pN 2 k rfl fun a k => s_bs (cs := [.int .i64 x1985]) (ps := [(0, .tmp 47)]) te29 m k rfl rfl rfl rfl rfl rfl rfl (by decide) rfl (by exact (List.forall_mem_cons.2 ⟨rfl, (List.forall_mem_nil _)⟩)) fun g2043 w2044 e2046 a k m e hb2045 => ?_)
               have hf2047 := ow_bx hb2045 ([x1985] : List Int) rfl rfl rfl
               refine oE h fun x2048 hx2049 h => s_appF hx2049 te29 rfl m 3 hf1984 (News.rd (Enc.rd_agr (Enc.ow_rd hf2047) (m.a 0 rfl))) rfl rfl k rfl rfl rfl rfl rfl rfl rfl fun v2050 F2051 w2052 a k e m hf2053 => pN 1 k rfl fun a k => wpList_nil (nm_block (nm_then ?_))
               exact ⟨x2048, v2050, F2051, w2052, k.keep [1, 2, 5, 6, 7, 8, 16, 17, 29, 30, 31] rfl, m.sel [1, 2, 3] rfl (by decide), hf2053, h⟩
             refine wp_skip (nm_block (nm_then ?_))
             exact ⟨list1980, v1981, F1982, u1983, k.keep [1, 2, 5, 6, 7, 8, 16, 17, 29, 30, 31] rfl, m.sel [0, 1, 2] rfl (by decide), hf1984, h⟩
           have h := bif_f hb2037 h
           refine rB k 40 rfl hb2037 fun k => pN 5 k rfl fun a k => nn (wp_cond_false (k.ev rfl) (wp_skip (nm_block (nm_then ?_))))
           exact ⟨list1980, v1981, F1982, u1983, k.keep [1, 2, 5, 6, 7, 8, 16, 17, 29, 30, 31] rfl, m.sel [0, 1, 2] rfl (by decide), hf1984, h⟩
         refine wp_exit (ex_then (ex_then (ex_same (nm_then ?_))))
         refine wr (pN 1 k rfl fun a k => sv k rfl (r_len (α := Int) (Enc.ow_rd hf1984) k underlying29 rfl rfl) fun a k => pN 2 k rfl fun a k => nn (wr (pN 2 k rfl fun a k => oE h fun u2054 hx2055 h => sv k rfl (r_rem (odiv_some hx2055) k rfl rfl rfl) fun a k => pN 3 k rfl fun a k => oE h fun u2056 hx2057 h => sv k rfl (r_rem (odiv_some hx2057) k rfl rfl rfl) fun a k => pN 1 k rfl fun a k => nn (wr (pN 2 k rfl fun a k => sv k rfl (r_len (α := Int) (Enc.ow_rd hf1984) k underlying29 rfl rfl) fun a k => pN 1 k rfl fun a k => nn (cI h k rfl (fun hb2058 h => ?_) fun hb2058 h => ?_))))))
         · refine wp_region_lit (pN 2 k rfl fun a k => s_bs (cs := [.int .i64 x1467]) (ps := [(0, .tmp 66)]) te29 m k rfl rfl rfl rfl rfl rfl rfl (by decide) rfl (by exact (List.forall_mem_cons.2 ⟨rfl, (List.forall_mem_nil _)⟩)) fun g2059 w2060 e2062 a k m e hb2061 => ?_)
           have hf2063 := ow_bx hb2061 ([x1467] : List Int) rfl rfl rfl
           refine s_bs (cs := [(.slice (some ⟨g2059, 0, none⟩) 1 1)]) (ps := [(0, .tmp 67)]) te47 m k rfl rfl rfl rfl rfl rfl rfl (by decide) rfl (by exact (List.forall_mem_cons.2 ⟨congrArg Array.size (rd_c (Enc.ow_rd hf2063)), (List.forall_mem_nil _)⟩)) fun g2064 w2065 e2067 a k m e hb2066 => oE h fun x2068 hx2069 h => ?_
           have hy2074 := Enc.ow_agr hf2063 (m.a 1 rfl)
           have hn2075 := News.box hb2066 (m.a 0 rfl) (by simp) (m := 1)
           have hA2076 := m.a 3 rfl
           have m := m.sel [3, 1, 0, 2, 4] rfl (by decide)
           have m := m.join2
           refine s_appO (F := F1464) (G := [g2059]) hx2069 te47 rfl m hf1466 hA2076 hn2075 hy2074 (Agr.refl _ _) k rfl rfl rfl rfl rfl rfl fun v2070 F2071 w2072 a k e m hf2073 => pN 1 k rfl fun a k => wpList_nil (nm_block (nm_then ?_))
           exact ⟨u1460, x2068, v2070, F2071, w2072, k.keep [1, 2, 5, 16, 17] rfl, m.sel [2, 0] rfl (by decide), hb1461, hf2073, h⟩
         refine d_go (F1464) mixo m rfl fun w2077 hMd => ?_
         have m := hMd
         have s := Ext.refl ((F1464) : List Nat) w2077
         refine dp k 0 rfl (by kernel_rfl) rfl s (fun _ _ _ => id) rfl fun a k => dp k 1 rfl (by kernel_rfl) rfl s (fun _ _ _ => id) rfl fun a k => dp k 2 rfl (by kernel_rfl) rfl s (fun _ _ _ => id) rfl fun a k => oE h fun x2078 hx2079 h => dt k 3 rfl (by kernel_rfl) rfl s (fun _ _ _ => id) (fun w s => r_ixa (Enc.ow_rd hf1984) hx2079 k ts29 rfl rfl rfl) fun a k => dt k 4 rfl (by kernel_rfl) rfl s (fun _ _ _ => id) (fun w s => r_lde1 (Enc.ow_rd hf1984) (hMd.az 2 1 rfl rfl rfl s) hx2079 0 t13 k rfl rfl rfl rfl) fun a k => dp k 5 rfl (by kernel_rfl) rfl s (fun _ _ _ => id) rfl fun a k => dp k 6 rfl (by kernel_rfl) rfl s (fun _ _ _ => id) rfl fun a k => dp k 7 rfl (by kernel_rfl) rfl s (fun _ _ _ => id) rfl fun a k => oE h fun x2080 hx2081 h => ?_
         refine dt k 8 rfl (by kernel_rfl) rfl s (fun _ _ _ => id) (fun w s => r_ixa (Enc.ow_rd hf1984) hx2079 k ts29 rfl rfl rfl) fun a k => dt k 9 rfl (by kernel_rfl) rfl s (fun _ _ _ => id) (fun w s => r_lde1 (Enc.ow_rd hf1984) (hMd.az 2 1 rfl rfl rfl s) hx2079 0 t13 k rfl rfl rfl rfl) fun a k => oE h fun x2082 hx2083 h => dt k 10 rfl (by kernel_rfl) rfl s (fun _ _ _ => id) (fun w s => r_ixa (Enc.ow_rd hf1466) hx2083 k ts47 rfl rfl rfl) fun a k => ?_
         obtain ⟨G2084, cs2085, hG2086, hr2087, hp2088, hb2089⟩ := rd_get (Enc.ow_rd hf1466) (ix_some hx2083).2.2
         obtain ⟨v2090, rfl⟩ : ∃ v, cs2085 = [v] := by obtain ⟨_, _, hq, _⟩ := hr2087; exact ⟨_, hq⟩
         refine dp k 12 rfl (by kernel_rfl) rfl s (fun _ _ _ => id) rfl fun a k => ?_
         obtain ⟨G2091, cs2092, hG2093, hr2094, hp2095, hb2096⟩ := rd_get (Enc.ow_rd hf1466) (ix_some hx2083).2.2
         obtain ⟨v2097, rfl⟩ : ∃ v, cs2092 = [v] := by obtain ⟨_, _, hq, _⟩ := hr2094; exact ⟨_, hq⟩
         refine d_two 11 13 (by kernel_rfl) rfl rfl ?_ ?_ 
         · obtain ⟨G2098, cs2099, hG2100, hr2101, hp2102, hb2103⟩ := rd_get (Enc.ow_rd hf1466) (ix_some hx2083).2.2
           obtain ⟨v2104, rfl⟩ : ∃ v, cs2099 = [v] := by obtain ⟨_, _, hq, _⟩ := hr2101; exact ⟨_, hq⟩
           refine sv k rfl (r_ld1 t129 (hp2102.agr (m.a 1 rfl) hb2103) k rfl rfl) fun a k => wpList_nil ⟨s, ?_⟩
           refine d_one 13 (by kernel_rfl) rfl (s_bsN (cs := [.int .i64 x1467]) (ps := [(0, .tmp 82)]) te29 m k rfl rfl rfl rfl rfl rfl rfl (by decide) rfl (by exact (List.forall_mem_cons.2 ⟨rfl, (List.forall_mem_nil _)⟩)) fun g2105 w2106 e2108 a k m e hb2107 hgn2109 => ?_)
           have hlo2111 := lo1 (Nat.le_trans s.size hgn2109)
           have hf2110 := ow_bx hb2107 ([x1467] : List Int) rfl rfl rfl
           have s := s.trans e (by simp)
           refine wpList_nil ⟨s, ?_⟩
           refine d_one 14 (by kernel_rfl) rfl ?_
           obtain ⟨A2118, B2119, m, hH2120, hO2121, hsA2122, hsB2123⟩ := m.opnS 2 rfl hf1466 hx2083 hp2102 rfl (M' := [([g2105], w2106), ([b18], u1460), (F1982, u1983)]) rfl
           refine oE h fun x2112 hx2113 h => s_appFN hx2113 te29 rfl m 1 hO2121 (News.rd (Enc.rd_agr (Enc.ow_rd hf2110) (m.a 2 rfl))) rfl rfl k rfl rfl rfl rfl rfl rfl rfl fun v2114 F2115 w2116 a k e m hf2117 hap2124 => ?_
           have hlo2125 : ∀ y ∈ F2115, y ∈ (F1464) ∨ _ ≤ y := fun y hy => (hap2124 y hy).elim (fun hy => (fun y hy => (fun y hy => Or.inl hy) y (hsB2123 y hy)) y hy) (fun h => Or.inr (Nat.le_trans s.size h))
           have s := s.trans e (fun y hy => (fun y hy => Or.inl hy) y (hsB2123 y hy))
           refine wpList_nil ⟨s, ?_⟩
           refine oE h fun x2126 hx2127 h => dt k 15 rfl (by kernel_rfl) rfl s (fun _ _ _ => id) (fun w s => r_ixa (Enc.ow_rd hf1466) hx2083 k ts47 rfl rfl rfl) fun a k => d_one 16 (by kernel_rfl) rfl (s_stH1 (α := List Int) (sz := 1) (cs' := [v2114]) sizeOf29 m 0 hH2120 0 k (rd_c (Enc.ow_rd hf2117)) (rd_o (Enc.ow_rd hf2117)) rfl rfl rfl rfl rfl rfl rfl rfl rfl rfl fun w2128 a k e m hH2129 => ?_)
           obtain ⟨F2130, m, hf2131⟩ := (m.sel [0, 1, 2, 3, 4] rfl (by decide)).cls hH2129 hf2117
           have s := s.trans e (fun y hy => (fun y hy => Or.inl hy) y (hsA2122 y hy))
           refine wpList_nil ⟨s, ?_⟩
           refine d_done (by kernel_rfl) ?_
           have k := k.keep [1, 2, 5, 16, 17] rfl
           refine (nm_block (nm_then ?_))
           exact ⟨u1460, setx out1462 x2078 x2112, v1463, F2130, w2128, k.keep [1, 2, 5, 16, 17] rfl, m.sel [2, 0] rfl (by decide), hb1461, hf2131, h⟩
         refine s_bsN (cs := [.int .i64 x1467]) (ps := [(0, .tmp 82)]) te29 m k rfl rfl rfl rfl rfl rfl rfl (by decide) rfl (by exact (List.forall_mem_cons.2 ⟨rfl, (List.forall_mem_nil _)⟩)) fun g2132 w2133 e2135 a k m e hb2134 hgn2136 => ?_
         have hlo2138 := lo1 (Nat.le_trans s.size hgn2136)
         have hf2137 := ow_bx hb2134 ([x1467] : List Int) rfl rfl rfl
         have s := s.trans e (by simp)
         refine wpList_nil ⟨s, ?_⟩
         obtain ⟨G2139, cs2140, hG2141, hr2142, hp2143, hb2144⟩ := rd_get (Enc.ow_rd hf1466) (ix_some hx2083).2.2
         obtain ⟨v2145, rfl⟩ : ∃ v, cs2140 = [v] := by obtain ⟨_, _, hq, _⟩ := hr2142; exact ⟨_, hq⟩
         refine d_one 11 (by kernel_rfl) rfl ?_
         obtain ⟨G2146, cs2147, hG2148, hr2149, hp2150, hb2151⟩ := rd_get (Enc.ow_rd hf1466) (ix_some hx2083).2.2
         obtain ⟨v2152, rfl⟩ : ∃ v, cs2147 = [v] := by obtain ⟨_, _, hq, _⟩ := hr2149; exact ⟨_, hq⟩
         refine sv k rfl (r_ld1 t129 (hp2150.agr (m.a 2 rfl) hb2151) k rfl rfl) fun a k => wpList_nil ⟨s, ?_⟩
         refine d_one 14 (by kernel_rfl) rfl ?_
         obtain ⟨A2159, B2160, m, hH2161, hO2162, hsA2163, hsB2164⟩ := m.opnS 2 rfl hf1466 hx2083 hp2150 rfl (M' := [([g2132], w2133), ([b18], u1460), (F1982, u1983)]) rfl
         refine oE h fun x2153 hx2154 h => s_appFN hx2154 te29 rfl m 1 hO2162 (News.rd (Enc.rd_agr (Enc.ow_rd hf2137) (m.a 2 rfl))) rfl rfl k rfl rfl rfl rfl rfl rfl rfl fun v2155 F2156 w2157 a k e m hf2158 hap2165 => ?_
         have hlo2166 : ∀ y ∈ F2156, y ∈ (F1464) ∨ _ ≤ y := fun y hy => (hap2165 y hy).elim (fun hy => (fun y hy => (fun y hy => Or.inl hy) y (hsB2164 y hy)) y hy) (fun h => Or.inr (Nat.le_trans s.size h))
         have s := s.trans e (fun y hy => (fun y hy => Or.inl hy) y (hsB2164 y hy))
         refine wpList_nil ⟨s, ?_⟩
         refine oE h fun x2167 hx2168 h => dt k 15 rfl (by kernel_rfl) rfl s (fun _ _ _ => id) (fun w s => r_ixa (Enc.ow_rd hf1466) hx2083 k ts47 rfl rfl rfl) fun a k => d_one 16 (by kernel_rfl) rfl (s_stH1 (α := List Int) (sz := 1) (cs' := [v2155]) sizeOf29 m 0 hH2161 0 k (rd_c (Enc.ow_rd hf2158)) (rd_o (Enc.ow_rd hf2158)) rfl rfl rfl rfl rfl rfl rfl rfl rfl rfl fun w2169 a k e m hH2170 => ?_)
         obtain ⟨F2171, m, hf2172⟩ := (m.sel [0, 1, 2, 3, 4] rfl (by decide)).cls hH2170 hf2158
         have s := s.trans e (fun y hy => (fun y hy => Or.inl hy) y (hsA2163 y hy))
         refine wpList_nil ⟨s, ?_⟩
         refine d_done (by kernel_rfl) ?_
         have k := k.keep [1, 2, 5, 16, 17] rfl
         refine (nm_block (nm_then ?_))
         exact ⟨u1460, setx out1462 x2078 x2153, v1463, F2171, w2169, k.keep [1, 2, 5, 16, 17] rfl, m.sel [2, 0] rfl (by decide), hb1461, hf2172, h⟩
       exact ⟨([] : List Int), (.slice (some ⟨g1832, 0, none⟩) 0 0), [g1832], w1833, 0, k.keep [1, 2, 5, 6, 7, 8, 16, 17, 29, 30, 31] rfl, m.sel [1, 2, 0] rfl (by decide), hf1836, h⟩
     refine wr (pN 2 k rfl fun a k => sv k rfl (r_len (α := Int) hp8 k underlying29 rfl rfl) fun a k => pN 1 k rfl fun a k => nn (cI h k rfl (fun hb2173 h => ?_) fun hb2173 h => ?_))
     · refine wp_region_lit (pN 2 k rfl fun a k => oE h fun x2174 hx2175 h => sv k rfl (r_ixa hp8 hx2175 k ts29 rfl rfl rfl) fun a k => sv k rfl (r_lde1 hp8 (m.a00 (Enc.rd_lt hp8)) hx2175 0 t13 k rfl rfl rfl rfl) fun a k => pN 1 k rfl fun a k => nn ?_)
       exact ⟨x2174, k.keep [1, 2, 5, 6, 7, 16, 17] rfl, m.sel [0, 1] rfl (by decide), h⟩
     refine wp_skip (nm_then ?_)
     exact ⟨0, k.keep [1, 2, 5, 6, 7, 16, 17] rfl, m.sel [0, 1] rfl (by decide), h⟩
   refine wp_exit (ex_then (ex_then (ex_same (nm_then ?_))))
   refine wr (pN 2 k rfl fun a k => nn (wp_ret ?_))
   cases h
   exact finR1 k rfl (RV.tmp k rfl) ⟨_, F1464, rfl, m.ext, (Enc.ow_agr hf1466 (m.a 1 rfl)), (m.fresh 1 rfl)⟩
 exact ⟨w20, ([] : List (List Int)), (.slice (some ⟨g21, 0, none⟩) 0 0), [g21], w22, 0, k.keep [1, 2, 5, 16, 17] rfl, m.sel [2, 1] rfl (by decide), hb19, hf25, h⟩

end Go.Proofs.YthjbcfefkdbgoaaGreat
