/- FnExactIsRival: the walks of functions that the law reaches, part 4. Printed by gen.py. -/
import Derived.Test.YthjbcfefkdbgoaaGreatExactIsRivalW3
set_option maxRecDepth 20000
set_option linter.unusedSimpArgs false
set_option linter.unusedVariables false
namespace Go.Proofs.YthjbcfefkdbgoaaGreat
open Go Go.RowKit
open Enc (rd ow)
open Arg (argv)
open Ret (retv)
open Go.Proofs.Tryz

theorem seq144 : SEq Tryz.prog 144 Pair := seqPair underlying144 Tryz.stoodInHeld144 Tryz.eqGuardType144 underlying3 rfl
theorem bt144 : BT Tryz.prog 144 [.int .i64 0, .int .i64 0] #[(0, 1), (1, 1)] := ⟨zeroValue144, _, underlying144, fun w => by simp [sizeOf3]⟩

def d_impl_namesOk_1 (fu : Nat) (q1 : Typ) (x2 : Typ) : Option (Bool) :=
  some (q1.fId == x2.fId)

def d_impl_namesOk_2 (fu : Nat) (q1 : Item) (x2 : Item) : Option (Bool) :=
  some (q1.fId == x2.fId)

def d_slices_IndexFunc_impl_Item_impl_Item_L1_B (fu : Nat)  (sv1 : List Item) (f5 : Item → Option Bool) (k1 : Int → Option (Int)) (x32 : Int) : Option (Int) :=
  bif (decide (x32 < ((sv1.length : Int)))) then obind (ix sv1 x32) fun x35 => obind (f5 x35) fun x37 => bif x37 then some (x32) else k1 (w64 (x32 + 1)) else some ((-1))
def d_slices_IndexFunc_impl_Item_impl_Item_L1 (fu : Nat)  (sv1 : List Item) (f5 : Item → Option Bool) : Nat → Int → Option (Int)
  | 0 => fun _ => none
  | n + 1 => d_slices_IndexFunc_impl_Item_impl_Item_L1_B fu sv1 f5 (d_slices_IndexFunc_impl_Item_impl_Item_L1 fu sv1 f5 n)
theorem d_slices_IndexFunc_impl_Item_impl_Item_L1_s (fu : Nat)  (sv1 : List Item) (f5 : Item → Option Bool) (n : Nat) : d_slices_IndexFunc_impl_Item_impl_Item_L1 fu sv1 f5 (n + 1) = d_slices_IndexFunc_impl_Item_impl_Item_L1_B fu sv1 f5 (d_slices_IndexFunc_impl_Item_impl_Item_L1 fu sv1 f5 n) := rfl

def d_slices_IndexFunc_impl_Item_impl_Item (fu : Nat) (sv1 : List Item) (f5 : Item → Option Bool) : Option (Int) :=
  d_slices_IndexFunc_impl_Item_impl_Item_L1 fu sv1 f5 fu 0

def d_slices_ContainsFunc_impl_Item_impl_Item (fu : Nat) (sv1 : List Item) (f5 : Item → Option Bool) : Option (Bool) :=
  obind (d_slices_IndexFunc_impl_Item_impl_Item fu sv1 f5) fun x14 => some (decide (x14 ≥ 0))

def d_impl_namesOk_3 (fu : Nat) (p1 : Pair) (x2 : Request) : Option (Bool) :=
  bif (decide (p1.fA ≥ x2.fClasses)) then some (true) else some (decide (p1.fB ≥ x2.fClasses))

def d_impl_namesOk_J1 (fu : Nat) (k4 : Int → Option (Bool)) (x178 : Int)  : Option (Bool) :=
  k4 (w64 (x178 + 1))

def d_impl_namesOk_L1_B (fu : Nat)  (r1 : Request) (k4 : Int → Option (Bool)) (x178 : Int) : Option (Bool) :=
  bif (decide (x178 < ((r1.fItems.length : Int)))) then obind (ix r1.fItems x178) fun x203 => bif (decide (x203.fClass ≥ r1.fClasses)) then some (false) else obind (sls r1.fItems 0 x178) fun x211 => obind (d_slices_ContainsFunc_impl_Item_impl_Item fu x211 (fun y216 => d_impl_namesOk_2 fu y216 x203)) fun x219 => bif x219 then some (false) else d_impl_namesOk_J1 fu k4 x178 else obind (d_impl_MasterOf fu r1) fun x224 => bif x224.2 then obind (d_slices_ContainsFunc_impl_Pair_impl_Pair fu r1.fPairs (fun y234 => d_impl_namesOk_3 fu y234 r1)) fun x237 => some (!x237) else some (false)
def d_impl_namesOk_L1 (fu : Nat)  (r1 : Request) : Nat → Int → Option (Bool)
  | 0 => fun _ => none
  | n + 1 => d_impl_namesOk_L1_B fu r1 (d_impl_namesOk_L1 fu r1 n)
theorem d_impl_namesOk_L1_s (fu : Nat)  (r1 : Request) (n : Nat) : d_impl_namesOk_L1 fu r1 (n + 1) = d_impl_namesOk_L1_B fu r1 (d_impl_namesOk_L1 fu r1 n) := rfl

def d_impl_namesOk_L2_B (fu : Nat)  (r1 : Request) (k1 : Int → Option (Bool)) (x63 : Int) : Option (Bool) :=
  bif (decide (x63 < ((r1.fTypes.length : Int)))) then obind (ix r1.fTypes x63) fun x66 => obind (sls r1.fTypes 0 x63) fun x73 => obind (d_slices_ContainsFunc_impl_Type_impl_Type fu x73 (fun y78 => d_impl_namesOk_1 fu y78 x66)) fun x81 => bif x81 then some (false) else k1 (w64 (x63 + 1)) else d_impl_namesOk_L1 fu r1 fu 0
def d_impl_namesOk_L2 (fu : Nat)  (r1 : Request) : Nat → Int → Option (Bool)
  | 0 => fun _ => none
  | n + 1 => d_impl_namesOk_L2_B fu r1 (d_impl_namesOk_L2 fu r1 n)
theorem d_impl_namesOk_L2_s (fu : Nat)  (r1 : Request) (n : Nat) : d_impl_namesOk_L2 fu r1 (n + 1) = d_impl_namesOk_L2_B fu r1 (d_impl_namesOk_L2 fu r1 n) := rfl

def d_impl_namesOk (fu : Nat) (r1 : Request) : Option (Bool) :=
  d_impl_namesOk_L2 fu r1 fu 0

def d_slices_Index_impl_Pair_impl_Pair_L1_B (fu : Nat)  (sv1 : List Pair) (v5 : Pair) (k1 : Int → Option (Int)) (x23 : Int) : Option (Int) :=
  bif (decide (x23 < ((sv1.length : Int)))) then obind (ix sv1 x23) fun x27 => bif (decide (v5 = x27)) then some (x23) else k1 (w64 (x23 + 1)) else some ((-1))
def d_slices_Index_impl_Pair_impl_Pair_L1 (fu : Nat)  (sv1 : List Pair) (v5 : Pair) : Nat → Int → Option (Int)
  | 0 => fun _ => none
  | n + 1 => d_slices_Index_impl_Pair_impl_Pair_L1_B fu sv1 v5 (d_slices_Index_impl_Pair_impl_Pair_L1 fu sv1 v5 n)
theorem d_slices_Index_impl_Pair_impl_Pair_L1_s (fu : Nat)  (sv1 : List Pair) (v5 : Pair) (n : Nat) : d_slices_Index_impl_Pair_impl_Pair_L1 fu sv1 v5 (n + 1) = d_slices_Index_impl_Pair_impl_Pair_L1_B fu sv1 v5 (d_slices_Index_impl_Pair_impl_Pair_L1 fu sv1 v5 n) := rfl

def d_slices_Index_impl_Pair_impl_Pair (fu : Nat) (sv1 : List Pair) (v5 : Pair) : Option (Int) :=
  d_slices_Index_impl_Pair_impl_Pair_L1 fu sv1 v5 fu 0

def d_slices_Contains_impl_Pair_impl_Pair (fu : Nat) (sv1 : List Pair) (v5 : Pair) : Option (Bool) :=
  obind (d_slices_Index_impl_Pair_impl_Pair fu sv1 v5) fun x9 => some (decide (x9 ≥ 0))

def d_impl_Beside (fu : Nat) (pairs1 : List Pair) (a5 : Int) (b6 : Int) : Option (Bool) :=
  obind (d_slices_Contains_impl_Pair_impl_Pair fu pairs1 ((⟨a5, b6⟩ : Pair))) fun x7 => some (x7)

def d_impl_TableOk_L1_B (fu : Nat) (k3 : Int → Option (Bool)) (pairs1 : List Pair) (classes5 : Int) (x99 : Int) (k4 : Int → Option (Bool)) (x131 : Int) : Option (Bool) :=
  bif (decide (x131 < classes5)) then obind (d_impl_Beside fu pairs1 x99 x131) fun x134 => obind (d_impl_Beside fu pairs1 x131 x99) fun x138 => bif (!(x134 == x138)) then some (false) else k4 (w64 (x131 + 1)) else k3 (w64 (x99 + 1))
def d_impl_TableOk_L1 (fu : Nat) (k3 : Int → Option (Bool)) (pairs1 : List Pair) (classes5 : Int) (x99 : Int) : Nat → Int → Option (Bool)
  | 0 => fun _ => none
  | n + 1 => d_impl_TableOk_L1_B fu k3 pairs1 classes5 x99 (d_impl_TableOk_L1 fu k3 pairs1 classes5 x99 n)
theorem d_impl_TableOk_L1_s (fu : Nat) (k3 : Int → Option (Bool)) (pairs1 : List Pair) (classes5 : Int) (x99 : Int) (n : Nat) : d_impl_TableOk_L1 fu k3 pairs1 classes5 x99 (n + 1) = d_impl_TableOk_L1_B fu k3 pairs1 classes5 x99 (d_impl_TableOk_L1 fu k3 pairs1 classes5 x99 n) := rfl

def d_impl_TableOk_L2_B (fu : Nat)  (pairs1 : List Pair) (classes5 : Int) (k3 : Int → Option (Bool)) (x99 : Int) : Option (Bool) :=
  bif (decide (x99 < classes5)) then obind (d_impl_Beside fu pairs1 x99 x99) fun x102 => bif (!x102) then some (false) else d_impl_TableOk_L1 fu k3 pairs1 classes5 x99 fu 0 else some (true)
def d_impl_TableOk_L2 (fu : Nat)  (pairs1 : List Pair) (classes5 : Int) : Nat → Int → Option (Bool)
  | 0 => fun _ => none
  | n + 1 => d_impl_TableOk_L2_B fu pairs1 classes5 (d_impl_TableOk_L2 fu pairs1 classes5 n)
theorem d_impl_TableOk_L2_s (fu : Nat)  (pairs1 : List Pair) (classes5 : Int) (n : Nat) : d_impl_TableOk_L2 fu pairs1 classes5 (n + 1) = d_impl_TableOk_L2_B fu pairs1 classes5 (d_impl_TableOk_L2 fu pairs1 classes5 n) := rfl

def d_impl_TableOk (fu : Nat) (pairs1 : List Pair) (classes5 : Int) : Option (Bool) :=
  obind (d_impl_in fu classes5 1 4) fun x6 => bif (!x6) then some (false) else d_impl_TableOk_L2 fu pairs1 classes5 fu 0

def d_slices_Sort_int_int (fu : Nat) (x1 : List Int) : Option (List Int) := sortI x1

def d_impl_Fits_J1 (fu : Nat) (x1 : Item) (t2 : Typ) (a39 : List Int) (b44 : List Int) : Option (Bool) :=
  obind (d_slices_Sort_int_int fu a39) fun x49 => obind (d_slices_Sort_int_int fu b44) fun x56 => obind (ix x49 0) fun x64 => obind (ix x56 0) fun x66 => bif (decide (x64 ≤ x66)) then obind (ix x49 1) fun x69 => obind (ix x56 1) fun x71 => bif (decide (x69 ≤ x71)) then obind (ix x49 2) fun x74 => obind (ix x56 2) fun x76 => bif (decide (x74 ≤ x76)) then some (decide (x1.fGram ≤ t2.fGram)) else some (false) else some (false) else some (false)

def d_impl_Fits (fu : Nat) (x1 : Item) (t2 : Typ) : Option (Bool) :=
  d_impl_Fits_J1 fu x1 t2 (([x1.fW, x1.fH, x1.fD] : List Int)) (([t2.fW, t2.fH, t2.fD] : List Int))

def d_impl_Class_1 (fu : Nat) (x1 : Item) (x2 : Typ) : Option (Bool) :=
  obind (d_impl_Fits fu x1 x2) fun x8 => some (!x8)

def d_impl_Class_2 (fu : Nat) (t1 : Typ) (x2 : Pallet) : Option (Bool) :=
  bif (decide (t1.fW > x2.fW)) then some (true) else bif (decide (t1.fD > x2.fD)) then some (true) else bif (decide (t1.fH > x2.fH)) then some (true) else some (decide ((w64 (t1.fTare + t1.fGram)) > x2.fGram))

def d_impl_Class (fu : Nat) (r1 : Request) : Option (Int) :=
  obind (d_impl_MasterOf fu r1) fun x17 => obind (d_impl_BoundsOk fu r1) fun x31 => bif (!x31) then some (2) else obind (d_impl_namesOk fu r1) fun x36 => bif (!x36) then some (3) else obind (d_impl_TableOk fu r1.fPairs r1.fClasses) fun x41 => bif (!x41) then some (4) else obind (d_slices_ContainsFunc_impl_Item_impl_Item fu r1.fItems (fun y46 => d_impl_Class_1 fu y46 x17.1)) fun x49 => bif x49 then some (5) else obind (d_slices_ContainsFunc_impl_Type_impl_Type fu r1.fTypes (fun y54 => d_impl_Class_2 fu y54 r1.fPallet)) fun x57 => bif x57 then some (6) else some (0)

def d_impl_sound (fu : Nat) (r1 : Request) : Option (Bool) :=
  obind (d_impl_Class fu r1) fun x17 => some (x17 == 0)

def d_bits_Mul32 (fu : Nat) (x1 : Int) (y2 : Int) : Option (Int × Int) :=
  some (IntKind.wrap .u32 (Int.fdiv (IntKind.wrap .u64 ((IntKind.wrap .u64 x1) * (IntKind.wrap .u64 y2))) (2 ^ (min 32 (IntKind.bits .u64)))), IntKind.wrap .u32 (IntKind.wrap .u64 ((IntKind.wrap .u64 x1) * (IntKind.wrap .u64 y2))))

def d_bits_Mul64 (fu : Nat) (x1 : Int) (y2 : Int) : Option (Int × Int) :=
  some (IntKind.wrap .u64 ((IntKind.wrap .u64 ((IntKind.wrap .u64 ((Int.fdiv x1 (2 ^ (min 32 (IntKind.bits .u64)))) * (Int.fdiv y2 (2 ^ (min 32 (IntKind.bits .u64)))))) + (Int.fdiv (IntKind.wrap .u64 ((IntKind.wrap .u64 ((Int.fdiv x1 (2 ^ (min 32 (IntKind.bits .u64)))) * (IntKind.wrap .u64 (((BitVec.ofInt (IntKind.bits .u64) y2 &&& BitVec.ofInt (IntKind.bits .u64) 4294967295).toNat : Nat) : Int)))) + (Int.fdiv (IntKind.wrap .u64 ((IntKind.wrap .u64 (((BitVec.ofInt (IntKind.bits .u64) x1 &&& BitVec.ofInt (IntKind.bits .u64) 4294967295).toNat : Nat) : Int)) * (IntKind.wrap .u64 (((BitVec.ofInt (IntKind.bits .u64) y2 &&& BitVec.ofInt (IntKind.bits .u64) 4294967295).toNat : Nat) : Int)))) (2 ^ (min 32 (IntKind.bits .u64)))))) (2 ^ (min 32 (IntKind.bits .u64)))))) + (Int.fdiv (IntKind.wrap .u64 ((IntKind.wrap .u64 (((BitVec.ofInt (IntKind.bits .u64) (IntKind.wrap .u64 ((IntKind.wrap .u64 ((Int.fdiv x1 (2 ^ (min 32 (IntKind.bits .u64)))) * (IntKind.wrap .u64 (((BitVec.ofInt (IntKind.bits .u64) y2 &&& BitVec.ofInt (IntKind.bits .u64) 4294967295).toNat : Nat) : Int)))) + (Int.fdiv (IntKind.wrap .u64 ((IntKind.wrap .u64 (((BitVec.ofInt (IntKind.bits .u64) x1 &&& BitVec.ofInt (IntKind.bits .u64) 4294967295).toNat : Nat) : Int)) * (IntKind.wrap .u64 (((BitVec.ofInt (IntKind.bits .u64) y2 &&& BitVec.ofInt (IntKind.bits .u64) 4294967295).toNat : Nat) : Int)))) (2 ^ (min 32 (IntKind.bits .u64)))))) &&& BitVec.ofInt (IntKind.bits .u64) 4294967295).toNat : Nat) : Int)) + (IntKind.wrap .u64 ((IntKind.wrap .u64 (((BitVec.ofInt (IntKind.bits .u64) x1 &&& BitVec.ofInt (IntKind.bits .u64) 4294967295).toNat : Nat) : Int)) * (Int.fdiv y2 (2 ^ (min 32 (IntKind.bits .u64)))))))) (2 ^ (min 32 (IntKind.bits .u64))))), IntKind.wrap .u64 (x1 * y2))

def d_bits_Mul (fu : Nat) (x1 : Int) (y2 : Int) : Option (Int × Int) :=
  obind (d_bits_Mul64 fu x1 y2) fun x3 => some (x3.1, x3.2)

def d_slices_Repeat_int_int_L1_B (fu : Nat)   (k3 : List Int → Int → Option ((List Int))) (newslice64 : List Int) (n69 : Int) : Option ((List Int)) :=
  bif (decide (n69 < ((newslice64.length : Int)))) then obind (sls newslice64 n69 (newslice64.length : Int)) fun x73 => obind (sls newslice64 0 n69) fun x79 => k3 (cpd newslice64 n69 x79) (w64 (n69 + (cpn newslice64 n69 x79))) else some (newslice64)
def d_slices_Repeat_int_int_L1 (fu : Nat)   : Nat → List Int → Int → Option ((List Int))
  | 0 => fun _ _ => none
  | n + 1 => d_slices_Repeat_int_int_L1_B fu  (d_slices_Repeat_int_int_L1 fu  n)
theorem d_slices_Repeat_int_int_L1_s (fu : Nat)   (n : Nat) : d_slices_Repeat_int_int_L1 fu  (n + 1) = d_slices_Repeat_int_int_L1_B fu  (d_slices_Repeat_int_int_L1 fu  n) := rfl

def d_slices_Repeat_int_int_J1 (fu : Nat) (x1 : List Int) (x8 : Int × Int)  : Option ((List Int)) :=
  obind (mk 8 (0 : Int) (w64 x8.2)) fun x15 => d_slices_Repeat_int_int_L1 fu fu (cpd x15 0 x1) (cpn x15 0 x1)

def d_slices_Repeat_int_int_J2 (fu : Nat) (x1 : List Int) (count5 : Int)  : Option ((List Int)) :=
  obind (d_bits_Mul fu (IntKind.wrap .u64 ((x1.length : Int))) (IntKind.wrap .u64 count5)) fun x8 => bif (decide (x8.1 > 0)) then none else bif (decide (x8.2 > 9223372036854775807)) then none else d_slices_Repeat_int_int_J1 fu x1 x8

def d_slices_Repeat_int_int (fu : Nat) (x1 : List Int) (count5 : Int) : Option ((List Int)) :=
  bif (decide (count5 < 0)) then none else d_slices_Repeat_int_int_J2 fu x1 count5

def d_impl_Units_L1_B (fu : Nat)  (r1 : Request) (k1 : List Int → Int → Option ((List Int))) (out92 : List Int) (x97 : Int) : Option ((List Int)) :=
  bif (decide (x97 < ((r1.fItems.length : Int)))) then obind (ix r1.fItems x97) fun x100 => obind (d_slices_Repeat_int_int fu (([x97] : List Int)) x100.fCount) fun x112 => obind (apnd 8 out92 x112) fun x121 => k1 x121 (w64 (x97 + 1)) else some (out92)
def d_impl_Units_L1 (fu : Nat)  (r1 : Request) : Nat → List Int → Int → Option ((List Int))
  | 0 => fun _ _ => none
  | n + 1 => d_impl_Units_L1_B fu r1 (d_impl_Units_L1 fu r1 n)
theorem d_impl_Units_L1_s (fu : Nat)  (r1 : Request) (n : Nat) : d_impl_Units_L1 fu r1 (n + 1) = d_impl_Units_L1_B fu r1 (d_impl_Units_L1 fu r1 n) := rfl

def d_impl_Units (fu : Nat) (r1 : Request) : Option ((List Int)) :=
  obind (d_impl_sound fu r1) fun x17 => bif (!x17) then some (([] : List Int)) else d_impl_Units_L1 fu r1 fu (([] : List Int)) 0

def d_impl_places_L1_B (fu : Nat)  (n1 : Int) (k1 : List Int → Int → Option ((List Int))) (out40 : List Int) (x45 : Int) : Option ((List Int)) :=
  bif (decide (x45 < n1)) then obind (apnd 8 out40 (([x45] : List Int))) fun x53 => k1 x53 (w64 (x45 + 1)) else some (out40)
def d_impl_places_L1 (fu : Nat)  (n1 : Int) : Nat → List Int → Int → Option ((List Int))
  | 0 => fun _ _ => none
  | n + 1 => d_impl_places_L1_B fu n1 (d_impl_places_L1 fu n1 n)
theorem d_impl_places_L1_s (fu : Nat)  (n1 : Int) (n : Nat) : d_impl_places_L1 fu n1 (n + 1) = d_impl_places_L1_B fu n1 (d_impl_places_L1 fu n1 n) := rfl

def d_impl_places (fu : Nat) (n1 : Int) : Option ((List Int)) :=
  d_impl_places_L1 fu n1 fu (([] : List Int)) 0

def d_impl_itemsOf_J1 (fu : Nat) (k3 : List Item → Int → Option ((List Item))) (x171 : Int) (out202 : List Item) : Option ((List Item)) :=
  k3 out202 (w64 (x171 + 1))

def d_impl_itemsOf_L1_B (fu : Nat)  (r1 : Request) (units5 : List Int) (x21 : (List Int)) (k3 : List Item → Int → Option ((List Item))) (out166 : List Item) (x171 : Int) : Option ((List Item)) :=
  bif (decide (x171 < ((units5.length : Int)))) then obind (ix units5 x171) fun x207 => obind (d_impl_in fu x207 0 (w64 (((x21.length : Int)) - 1))) fun x209 => bif x209 then obind (ix x21 x207) fun x215 => obind (ix r1.fItems x215) fun x217 => obind (apnd 56 out166 (([x217] : List Item))) fun x226 => d_impl_itemsOf_J1 fu k3 x171 x226 else d_impl_itemsOf_J1 fu k3 x171 out166 else some (out166)
def d_impl_itemsOf_L1 (fu : Nat)  (r1 : Request) (units5 : List Int) (x21 : (List Int)) : Nat → List Item → Int → Option ((List Item))
  | 0 => fun _ _ => none
  | n + 1 => d_impl_itemsOf_L1_B fu r1 units5 x21 (d_impl_itemsOf_L1 fu r1 units5 x21 n)
theorem d_impl_itemsOf_L1_s (fu : Nat)  (r1 : Request) (units5 : List Int) (x21 : (List Int)) (n : Nat) : d_impl_itemsOf_L1 fu r1 units5 x21 (n + 1) = d_impl_itemsOf_L1_B fu r1 units5 x21 (d_impl_itemsOf_L1 fu r1 units5 x21 n) := rfl

def d_impl_itemsOf (fu : Nat) (r1 : Request) (units5 : List Int) : Option ((List Item)) :=
  obind (d_impl_Units fu r1) fun x21 => d_impl_itemsOf_L1 fu r1 units5 x21 fu (([] : List Item)) 0

def d_impl_Volume_J1 (fu : Nat) (wv1 : Int) (h2 : Int) (d3 : Int)  : Option (Int) :=
  some (w64 ((w64 (wv1 * h2)) * d3))

def d_impl_Volume (fu : Nat) (wv1 : Int) (h2 : Int) (d3 : Int) : Option (Int) :=
  obind (d_impl_in fu wv1 0 2000) fun x20 => bif (!x20) then some (0) else obind (d_impl_in fu h2 0 2000) fun x25 => bif (!x25) then some (0) else obind (d_impl_in fu d3 0 2000) fun x30 => bif (!x30) then some (0) else d_impl_Volume_J1 fu wv1 h2 d3

def d_impl_VolumeOf_L1_B (fu : Nat)  (x21 : (List Item)) (k1 : Int → Int → Option (Int)) (n59 : Int) (x60 : Int) : Option (Int) :=
  bif (decide (x60 < ((x21.length : Int)))) then obind (ix x21 x60) fun x63 => obind (d_impl_Volume fu x63.fW x63.fH x63.fD) fun x70 => k1 (w64 (n59 + x70)) (w64 (x60 + 1)) else some (n59)
def d_impl_VolumeOf_L1 (fu : Nat)  (x21 : (List Item)) : Nat → Int → Int → Option (Int)
  | 0 => fun _ _ => none
  | n + 1 => d_impl_VolumeOf_L1_B fu x21 (d_impl_VolumeOf_L1 fu x21 n)
theorem d_impl_VolumeOf_L1_s (fu : Nat)  (x21 : (List Item)) (n : Nat) : d_impl_VolumeOf_L1 fu x21 (n + 1) = d_impl_VolumeOf_L1_B fu x21 (d_impl_VolumeOf_L1 fu x21 n) := rfl

def d_impl_VolumeOf (fu : Nat) (r1 : Request) (units5 : List Int) : Option (Int) :=
  obind (d_impl_itemsOf fu r1 units5) fun x21 => d_impl_VolumeOf_L1 fu x21 fu 0 0

def d_impl_GramOf_L1_B (fu : Nat)  (x21 : (List Item)) (k1 : Int → Int → Option (Int)) (n51 : Int) (x52 : Int) : Option (Int) :=
  bif (decide (x52 < ((x21.length : Int)))) then obind (ix x21 x52) fun x55 => k1 (w64 (n51 + x55.fGram)) (w64 (x52 + 1)) else some (n51)
def d_impl_GramOf_L1 (fu : Nat)  (x21 : (List Item)) : Nat → Int → Int → Option (Int)
  | 0 => fun _ _ => none
  | n + 1 => d_impl_GramOf_L1_B fu x21 (d_impl_GramOf_L1 fu x21 n)
theorem d_impl_GramOf_L1_s (fu : Nat)  (x21 : (List Item)) (n : Nat) : d_impl_GramOf_L1 fu x21 (n + 1) = d_impl_GramOf_L1_B fu x21 (d_impl_GramOf_L1 fu x21 n) := rfl

def d_impl_GramOf (fu : Nat) (r1 : Request) (units5 : List Int) : Option (Int) :=
  obind (d_impl_itemsOf fu r1 units5) fun x21 => d_impl_GramOf_L1 fu x21 fu 0 0

def d_impl_within (fu : Nat) (r1 : Request) (content5 : List Int) (t9 : Typ) : Option (Bool) :=
  obind (d_impl_VolumeOf fu r1 content5) fun x26 => obind (d_impl_Volume fu t9.fW t9.fH t9.fD) fun x30 => bif (decide (x26 ≤ x30)) then obind (d_impl_GramOf fu r1 content5) fun x35 => some (decide (x35 ≤ t9.fGram)) else some (false)

def d_slices_Clone_int_int (fu : Nat) (sv1 : List Int) : Option ((List Int)) :=
  obind (apnd 8 (([] : List Int)) sv1) fun x15 => some (x15)

theorem c_impl_namesOk_1 (fu : Nat) {w0 : World} (q1 : Typ) (x2 : Typ) {b3 : Nat} (hp4 : bx w0 b3 [.int .i64 x2.fId, .int .i64 x2.fW, .int .i64 x2.fH, .int .i64 x2.fD, .int .i64 x2.fTare, .int .i64 x2.fGram, .int .i64 x2.fCost] 92) {r : Bool}
    (h : d_impl_namesOk_1 fu q1 x2 = some r) :
    Calls Tryz.prog 205 #[.agg (Flat.e (q1)).toArray, .pointer (some (⟨b3, 0, none⟩ : Addr))] w0 fun e w => e = .returned (.bool (r)) ∧ Ext [] w0 w := by
 refine enter (vs := [_, _]) func205 rfl ntmps205 rfl fun a k => ?_
 have m := St.start w0
 unfold d_impl_namesOk_1 at h
 refine wr (s_box (cs := [.int .i64 q1.fId, .int .i64 q1.fW, .int .i64 q1.fH, .int .i64 q1.fD, .int .i64 q1.fTare, .int .i64 q1.fGram, .int .i64 q1.fCost]) m k rfl rfl rfl rfl rfl rfl fun b5 w7 a k m e hb6 => pN 1 k rfl fun a k => nn (wr (sv k rfl (r_fa fa92_0 k rfl rfl) fun a k => sv k rfl (r_ldb t13 m 0 hb6 0 k rfl rfl rfl rfl rfl) fun a k => sv k rfl (r_fa fa92_0 k rfl rfl) fun a k => sv k rfl (r_ld1 t13 (r := []) (hp4.at (m.a00 hp4.lt1) 0 1 rfl rfl rfl) k rfl rfl) fun a k => pN 2 k rfl fun a k => nn (wp_ret (fS h k m rfl rfl)))))
theorem c_impl_namesOk_2 (fu : Nat) {w0 : World} (q1 : Item) (x2 : Item) {b3 : Nat} (hp4 : bx w0 b3 [.int .i64 x2.fId, .int .i64 x2.fW, .int .i64 x2.fH, .int .i64 x2.fD, .int .i64 x2.fGram, .int .i64 x2.fClass, .int .i64 x2.fCount] 120) {r : Bool}
    (h : d_impl_namesOk_2 fu q1 x2 = some r) :
    Calls Tryz.prog 206 #[.agg (Flat.e (q1)).toArray, .pointer (some (⟨b3, 0, none⟩ : Addr))] w0 fun e w => e = .returned (.bool (r)) ∧ Ext [] w0 w := by
 refine enter (vs := [_, _]) func206 rfl ntmps206 rfl fun a k => ?_
 have m := St.start w0
 unfold d_impl_namesOk_2 at h
 refine wr (s_box (cs := [.int .i64 q1.fId, .int .i64 q1.fW, .int .i64 q1.fH, .int .i64 q1.fD, .int .i64 q1.fGram, .int .i64 q1.fClass, .int .i64 q1.fCount]) m k rfl rfl rfl rfl rfl rfl fun b5 w7 a k m e hb6 => pN 1 k rfl fun a k => nn (wr (sv k rfl (r_fa fa120_0 k rfl rfl) fun a k => sv k rfl (r_ldb t13 m 0 hb6 0 k rfl rfl rfl rfl rfl) fun a k => sv k rfl (r_fa fa120_0 k rfl rfl) fun a k => sv k rfl (r_ld1 t13 (r := []) (hp4.at (m.a00 hp4.lt1) 0 1 rfl rfl rfl) k rfl rfl) fun a k => pN 2 k rfl fun a k => nn (wp_ret (fS h k m rfl rfl)))))
theorem c_slices_IndexFunc_impl_Item_impl_Item (fu : Nat) {w0 : World} (sv1 : List Item) (f5 : Item → Option Bool) {v2 : Value} {F3 : List Nat} (hp4 : rd w0 F3 [v2] sv1) {v6 : Value} (hp7 : FnOk1 Tryz.prog w0 v6 f5) {r : Int}
    (h : d_slices_IndexFunc_impl_Item_impl_Item fu sv1 f5 = some r) :
    Calls Tryz.prog 190 #[v2, v6] w0 fun e w => e = .returned (.int .i64 r) ∧ Ext [] w0 w := by
 refine enter (vs := [_, _]) func190 rfl ntmps190 rfl fun a k => ?_
 have m := St.start w0
 obtain ⟨fid8, cap9, rfl, hcl10, hcc11⟩ := hp7
 unfold d_slices_IndexFunc_impl_Item_impl_Item at h
 refine wr (pN 1 k rfl fun a k => nn (wp_seq (wr (pN 1 k rfl fun a k => sv k rfl (r_len (α := Item) hp4 k underlying38 rfl rfl) fun a k => pN 1 k rfl fun a k => nn (wp_block (c_loop (fun n a w => ∃ (x32 : Int), K 19 [(0, v2), (1, (.func (.func fid8) #[] cap9.toArray)), (7, .int .i64 ((sv1.length : Int))), (8, .int .i64 x32)] a ∧ St [] w0 w [] ∧ d_slices_IndexFunc_impl_Item_impl_Item_L1 fu sv1 f5 n x32 = some r) ?_ ?_ fu _ _ ?_))))))
 · rintro a w ⟨_, _, _, h⟩
   exact nS h
 · rintro m33 a w31 ⟨x32, k, m, h⟩
   rw [d_slices_IndexFunc_impl_Item_impl_Item_L1_s] at h
   unfold d_slices_IndexFunc_impl_Item_impl_Item_L1_B at h
   refine wr (pN 1 k rfl fun a k => nn (wp_seq (cI h k rfl (fun hb34 h => ?_) fun hb34 h => ?_)))
   · refine wp_skip (nm_then ?_)
     refine wp_seq (wp_block (wr (pN 2 k rfl fun a k => nn (wr (pN 3 k rfl fun a k => oE h fun x35 hx36 h => sv k rfl (r_ixa hp4 hx36 k ts38 rfl rfl rfl) fun a k => sv k rfl (r_lde hp4 (m.a00 (Enc.rd_lt hp4)) hx36 ta120 k rfl rfl) fun a k => oE h fun x37 hx38 h => s_callv k hcl10 rfl rfl rfl rfl rfl rfl (hcc11 _ _ _ _ m.ext rfl hx38) fun e39 w40 hR => ?_)))))
     obtain ⟨rfl, e⟩ := hR
     refine ⟨_, rfl, fun a k => ?_⟩
     have m := m.step e
     refine nn (cI h k rfl (fun hb41 h => ?_) fun hb41 h => ?_)
     · refine wr (pN 2 k rfl fun a k => nn (wp_ret (rt_block (rt_then (rt_then (rt_block (rt_then ?_)))))))
       refine fS h k m rfl rfl
     refine wp_skip (nm_block (nm_then ?_))
     refine wp_region_lit (pN 2 k rfl fun a k => nn ?_)
     exact ⟨w64 (x32 + 1), k.keep [0, 1, 7, 8] rfl, m.sel [] rfl (by decide), h⟩
   refine wp_exit (ex_then (ex_then (ex_same (nm_then ?_))))
   refine wr (pN 1 k rfl fun a k => nn (wp_ret (fS h k m rfl rfl)))
 exact ⟨0, k.keep [0, 1, 7, 8] rfl, m.sel [] rfl (by decide), h⟩
theorem c_slices_ContainsFunc_impl_Item_impl_Item (fu : Nat) {w0 : World} (sv1 : List Item) (f5 : Item → Option Bool) {v2 : Value} {F3 : List Nat} (hp4 : rd w0 F3 [v2] sv1) {v6 : Value} (hp7 : FnOk1 Tryz.prog w0 v6 f5) {r : Bool}
    (h : d_slices_ContainsFunc_impl_Item_impl_Item fu sv1 f5 = some r) :
    Calls Tryz.prog 151 #[v2, v6] w0 fun e w => e = .returned (.bool (r)) ∧ Ext [] w0 w := by
 refine enter (vs := [_, _]) func151 rfl ntmps151 rfl fun a k => ?_
 have m := St.start w0
 obtain ⟨fid8, cap9, rfl, hcl10, hcc11⟩ := hp7
 unfold d_slices_ContainsFunc_impl_Item_impl_Item at h
 refine wr (pN 1 k rfl fun a k => nn (wr (pN 2 k rfl fun a k => oE h fun x14 hx15 h => cE k m call190 rfl rfl rfl (c_slices_IndexFunc_impl_Item_impl_Item fu _ _ (Enc.rd_agr hp4 (m.a00 (Enc.rd_lt hp4))) ⟨_, _, rfl, hcl10, fun w y12 v13 r e => hcc11 w y12 v13 r (m.ext.trans e (by simp))⟩ hx15) fun w17 e a k m => pN 2 k rfl fun a k => nn (wp_ret (fS h k m rfl rfl)))))
theorem c_impl_namesOk_3 (fu : Nat) {w0 : World} (p1 : Pair) (x2 : Request) {v5 : Value} {F6 : List Nat} {v8 : Value} {F9 : List Nat} {v11 : Value} {F12 : List Nat} {b3 : Nat} (hp4 : bx w0 b3 [.int .i64 x2.fWay, .int .i64 x2.fPallet.fW, .int .i64 x2.fPallet.fD, .int .i64 x2.fPallet.fH, .int .i64 x2.fPallet.fGram, .int .i64 x2.fClasses, v5, v8, .int .i64 x2.fMaster, v11] 40) (hp7 : rd w0 F6 [v5] x2.fPairs) (hp10 : rd w0 F9 [v8] x2.fTypes) (hp13 : rd w0 F12 [v11] x2.fItems) {r : Bool}
    (h : d_impl_namesOk_3 fu p1 x2 = some r) :
    Calls Tryz.prog 207 #[.agg (Flat.e (p1)).toArray, .pointer (some (⟨b3, 0, none⟩ : Addr))] w0 fun e w => e = .returned (.bool (r)) ∧ Ext [] w0 w := by
 refine enter (vs := [_, _]) func207 rfl ntmps207 rfl fun a k => ?_
 have m := St.start w0
 unfold d_impl_namesOk_3 at h
 refine wr (s_box (cs := [.int .i64 p1.fA, .int .i64 p1.fB]) m k rfl rfl rfl rfl rfl rfl fun b14 w16 a k m e hb15 => pN 1 k rfl fun a k => nn (wr (sv k rfl (r_fa fa144_0 k rfl rfl) fun a k => sv k rfl (r_ldb t13 m 0 hb15 0 k rfl rfl rfl rfl rfl) fun a k => sv k rfl (r_fa fa40_2 k rfl rfl) fun a k => sv k rfl (r_ld1 t13 (r := []) (hp4.at (m.a00 hp4.lt1) 5 1 rfl rfl rfl) k rfl rfl) fun a k => pN 2 k rfl fun a k => bsplit (decide (p1.fA ≥ x2.fClasses)) (fun hb17 => ?_) (fun hb17 => ?_))))
 · have h := bif_t hb17 h
   refine rB k 9 rfl hb17 fun k => pN 7 k rfl fun a k => nn (wp_ret (fS h k m rfl rfl))
 have h := bif_f hb17 h
 refine rB k 9 rfl hb17 fun k => sv k rfl (r_fa fa144_1 k rfl rfl) fun a k => sv k rfl (r_ldb t13 m 0 hb15 1 k rfl rfl rfl rfl rfl) fun a k => sv k rfl (r_fa fa40_2 k rfl rfl) fun a k => sv k rfl (r_ld1 t13 (r := []) (hp4.at (m.a00 hp4.lt1) 5 1 rfl rfl rfl) k rfl rfl) fun a k => pN 3 k rfl fun a k => nn (wp_ret (fS h k m rfl rfl))
theorem c_impl_namesOk (fu : Nat) {w0 : World} (r1 : Request) {cs2 : List Value} {F3 : List Nat} (hp4 : rd w0 F3 cs2 r1) {r : Bool}
    (h : d_impl_namesOk fu r1 = some r) :
    Calls Tryz.prog 180 #[.agg cs2.toArray] w0 fun e w => e = .returned (.bool (r)) ∧ Ext [] w0 w := by
 refine enter (vs := [_]) func180 rfl ntmps180 rfl fun a k => ?_
 have m := St.start w0
 obtain ⟨v5, F6, v7, F8, v9, F10, rfl, rfl, hf11, hf12, hf13⟩ := hp4
 unfold d_impl_namesOk at h
 refine wr (s_box (cs := [.int .i64 r1.fWay, .int .i64 r1.fPallet.fW, .int .i64 r1.fPallet.fD, .int .i64 r1.fPallet.fH, .int .i64 r1.fPallet.fGram, .int .i64 r1.fClasses, v5, v7, .int .i64 r1.fMaster, v9]) m k rfl rfl rfl rfl rfl rfl fun b14 w16 a k m e hb15 => pN 1 k rfl fun a k => nn (wp_seq (wr (sv k rfl (r_fa fa40_4 k rfl rfl) fun a k => sv k rfl (r_ldb t137 m 0 hb15 7 k rfl rfl rfl rfl rfl) fun a k => sv k rfl (r_len (α := Typ) hf12 k underlying37 rfl rfl) fun a k => pN 1 k rfl fun a k => nn (wp_block (c_loop (fun n a w => ∃ (x63 : Int), K 59 [(1, .pointer (some (⟨b14, 0, none⟩ : Addr))), (10, v7), (11, .int .i64 ((r1.fTypes.length : Int))), (12, .int .i64 x63)] a ∧ St [] w0 w [([b14], w16)] ∧ d_impl_namesOk_L2 fu r1 n x63 = some r) ?_ ?_ fu _ _ ?_))))))
 · rintro a w ⟨_, _, _, h⟩
   exact nS h
 · rintro m64 a w62 ⟨x63, k, m, h⟩
   rw [d_impl_namesOk_L2_s] at h
   unfold d_impl_namesOk_L2_B at h
   refine wr (pN 1 k rfl fun a k => nn (wp_seq (cI h k rfl (fun hb65 h => ?_) fun hb65 h => ?_)))
   · refine wp_skip (nm_then ?_)
     refine wp_seq (wp_block (wr (pN 1 k rfl fun a k => oE h fun x66 hx67 h => sv k rfl (r_ixa hf12 hx67 k ts37 rfl rfl rfl) fun a k => sv k rfl (r_lde hf12 (m.a00 (Enc.rd_lt hf12)) hx67 ta92 k rfl rfl) fun a k => s_alloc (cs := [.int .i64 0, .int .i64 0, .int .i64 0, .int .i64 0, .int .i64 0, .int .i64 0, .int .i64 0]) m k zeroValue92 rfl rfl rfl rfl rfl fun b68 w70 a k m e hb69 => pN 1 k rfl fun a k => s_stb (cs' := [.int .i64 x66.fId, .int .i64 x66.fW, .int .i64 x66.fH, .int .i64 x66.fD, .int .i64 x66.fTare, .int .i64 x66.fGram, .int .i64 x66.fCost]) sizeOf92 m 0 hb69 0 k rfl rfl rfl rfl rfl rfl rfl rfl rfl rfl rfl fun w71 a k e m hb72 => nn (wr (sv k rfl (r_fa fa40_4 k rfl rfl) fun a k => sv k rfl (r_ldb t137 m 1 hb15 7 k rfl rfl rfl rfl rfl) fun a k => pN 1 k rfl fun a k => oE h fun x73 hx74 h => ?_)))))
     refine s_slTo hf12 hx74 k ts37 rfl rfl rfl rfl rfl rfl fun v75 a k hf76 => pN 1 k rfl fun a k => oE h fun x81 hx82 h => cE k m call184 rfl rfl rfl (c_slices_ContainsFunc_impl_Type_impl_Type fu _ _ (Enc.rd_agr hf76 (m.a00 (Enc.rd_lt hf76))) ⟨205, [.pointer (some (⟨b68, 0, none⟩ : Addr))], rfl, call205, fun w y78 v79 r e hv80 hx => by subst hv80; have m := m.step e; exact c_impl_namesOk_1 fu _ _ (hb72.agr (m.a 0 rfl) (by simp)) hx⟩ hx82) fun w84 e a k m => nn (cI h k rfl (fun hb85 h => ?_) fun hb85 h => ?_)
     · refine wr (pN 1 k rfl fun a k => nn (wp_ret (rt_block (rt_then (rt_then (rt_block (rt_then ?_)))))))
       refine fS h k m rfl rfl
     refine wp_skip (nm_block (nm_then ?_))
     refine wp_region_lit (pN 2 k rfl fun a k => nn ?_)
     exact ⟨w64 (x63 + 1), k.keep [1, 10, 11, 12] rfl, m.sel [1] rfl (by decide), h⟩
   refine wp_exit (ex_then (ex_then (ex_same (nm_then ?_))))
   refine wp_seq (wr (sv k rfl (r_fa fa40_6 k rfl rfl) fun a k => sv k rfl (r_ldb t138 m 0 hb15 9 k rfl rfl rfl rfl rfl) fun a k => sv k rfl (r_len (α := Item) hf13 k underlying38 rfl rfl) fun a k => pN 1 k rfl fun a k => nn (wp_block (c_loop (fun n a w => ∃ (x178 : Int), K 59 [(1, .pointer (some (⟨b14, 0, none⟩ : Addr))), (25, v9), (26, .int .i64 ((r1.fItems.length : Int))), (27, .int .i64 x178)] a ∧ St [] w0 w [([b14], w16)] ∧ d_impl_namesOk_L1 fu r1 n x178 = some r) ?_ ?_ fu _ _ ?_))))
   · rintro a w ⟨_, _, _, h⟩
     exact nS h
   · rintro m179 a w177 ⟨x178, k, m, h⟩
     rw [d_impl_namesOk_L1_s] at h
     unfold d_impl_namesOk_L1_B at h
     refine wr (pN 1 k rfl fun a k => nn (wp_seq (cI h k rfl (fun hb180 h => ?_) fun hb180 h => ?_)))
     · refine wp_skip (nm_then ?_)
       refine c_cut (fun a w => K 59 [(1, .pointer (some (⟨b14, 0, none⟩ : Addr))), (25, v9), (26, .int .i64 ((r1.fItems.length : Int))), (27, .int .i64 x178)] a ∧ St [] w0 w [([b14], w16)] ∧ d_impl_namesOk_J1 fu (d_impl_namesOk_L1 fu r1 m179) x178 = some r) ?_ ?_
       · rintro a w202 ⟨k, m, h⟩
         unfold d_impl_namesOk_J1 at h
         refine wp_region_lit (pN 2 k rfl fun a k => nn ?_)
         exact ⟨w64 (x178 + 1), k.keep [1, 25, 26, 27] rfl, m.sel [0] rfl (by decide), h⟩
       refine wp_block (wr (pN 1 k rfl fun a k => oE h fun x203 hx204 h => sv k rfl (r_ixa hf13 hx204 k ts38 rfl rfl rfl) fun a k => sv k rfl (r_lde hf13 (m.a00 (Enc.rd_lt hf13)) hx204 ta120 k rfl rfl) fun a k => s_alloc (cs := [.int .i64 0, .int .i64 0, .int .i64 0, .int .i64 0, .int .i64 0, .int .i64 0, .int .i64 0]) m k zeroValue120 rfl rfl rfl rfl rfl fun b205 w207 a k m e hb206 => pN 1 k rfl fun a k => s_stb (cs' := [.int .i64 x203.fId, .int .i64 x203.fW, .int .i64 x203.fH, .int .i64 x203.fD, .int .i64 x203.fGram, .int .i64 x203.fClass, .int .i64 x203.fCount]) sizeOf120 m 0 hb206 0 k rfl rfl rfl rfl rfl rfl rfl rfl rfl rfl rfl fun w208 a k e m hb209 => nn (wr (sv k rfl (r_fa fa120_5 k rfl rfl) fun a k => sv k rfl (r_ldb t13 m 0 hb209 5 k rfl rfl rfl rfl rfl) fun a k => ?_))))
       refine sv k rfl (r_fa fa40_2 k rfl rfl) fun a k => sv k rfl (r_ldb t13 m 1 hb15 5 k rfl rfl rfl rfl rfl) fun a k => pN 2 k rfl fun a k => bsplit (decide (x203.fClass ≥ r1.fClasses)) (fun hb210 => ?_) (fun hb210 => ?_)
       · have h := bif_t hb210 h
         refine rB k 37 rfl hb210 fun k => pN 7 k rfl fun a k => nn (wp_cond_true (k.ev rfl) (wr (pN 1 k rfl fun a k => nn (wp_ret (rt_block (rt_then (rt_then (rt_block (rt_then ?_)))))))))
         refine fS h k m rfl rfl
       have h := bif_f hb210 h
       refine rB k 37 rfl hb210 fun k => sv k rfl (r_fa fa40_6 k rfl rfl) fun a k => sv k rfl (r_ldb t138 m 1 hb15 9 k rfl rfl rfl rfl rfl) fun a k => pN 1 k rfl fun a k => oE h fun x211 hx212 h => s_slTo hf13 hx212 k ts38 rfl rfl rfl rfl rfl rfl fun v213 a k hf214 => pN 1 k rfl fun a k => oE h fun x219 hx220 h => cE k m call151 rfl rfl rfl (c_slices_ContainsFunc_impl_Item_impl_Item fu _ _ (Enc.rd_agr hf214 (m.a00 (Enc.rd_lt hf214))) ⟨206, [.pointer (some (⟨b205, 0, none⟩ : Addr))], rfl, call206, fun w y216 v217 r e hv218 hx => by subst hv218; have m := m.step e; exact c_impl_namesOk_2 fu _ _ (hb209.agr (m.a 0 rfl) (by simp)) hx⟩ hx220) fun w222 e a k m => pN 1 k rfl fun a k => nn (cI h k rfl (fun hb223 h => ?_) fun hb223 h => ?_)
       · refine wr (pN 1 k rfl fun a k => nn (wp_ret (rt_block (rt_then (rt_then (rt_block (rt_then ?_)))))))
         refine fS h k m rfl rfl
       refine wp_skip (nm_block (nm_then ?_))
       exact ⟨k.keep [1, 25, 26, 27] rfl, m.sel [1] rfl (by decide), h⟩
     refine wp_exit (ex_then (ex_then (ex_same (nm_then ?_))))
     refine wr (sv k rfl (r_ldB ta40 m 0 hb15 0 k rfl rfl rfl rfl rfl rfl) fun a k => oE h fun x224 hx225 h => cE k m call148 rfl rfl rfl (c_impl_MasterOf fu _ (show rd _ _ [.int .i64 r1.fWay, .int .i64 r1.fPallet.fW, .int .i64 r1.fPallet.fD, .int .i64 r1.fPallet.fH, .int .i64 r1.fPallet.fGram, .int .i64 r1.fClasses, v5, v7, .int .i64 r1.fMaster, v9] (r1 : Request) from ⟨_, _, _, _, _, _, rfl, rfl, (Enc.rd_agr hf11 (m.a00 (Enc.rd_lt hf11))), (Enc.rd_agr hf12 (m.a00 (Enc.rd_lt hf12))), (Enc.rd_agr hf13 (m.a00 (Enc.rd_lt hf13)))⟩) hx225) fun w227 e a k m => pN 3 k rfl fun a k => s_alloc (cs := [.int .i64 0, .int .i64 0, .int .i64 0, .int .i64 0, .int .i64 0, .int .i64 0, .int .i64 0]) m k zeroValue92 rfl rfl rfl rfl rfl fun b228 w230 a k m e hb229 => ?_)
     refine s_stb (cs' := [.int .i64 x224.1.fId, .int .i64 x224.1.fW, .int .i64 x224.1.fH, .int .i64 x224.1.fD, .int .i64 x224.1.fTare, .int .i64 x224.1.fGram, .int .i64 x224.1.fCost]) sizeOf92 m 0 hb229 0 k rfl rfl rfl rfl rfl rfl rfl rfl rfl rfl rfl fun w231 a k e m hb232 => pN 1 k rfl fun a k => nn (wr (pN 2 k rfl fun a k => bsplit (x224.2) (fun hb233 => ?_) (fun hb233 => ?_)))
     · have h := bif_t hb233 h
       refine rB k 52 rfl hb233 fun k => sv k rfl (r_fa fa40_3 k rfl rfl) fun a k => sv k rfl (r_ldb t136 m 1 hb15 6 k rfl rfl rfl rfl rfl) fun a k => pN 1 k rfl fun a k => oE h fun x237 hx238 h => cE k m call200 rfl rfl rfl (c_slices_ContainsFunc_impl_Pair_impl_Pair fu _ _ (Enc.rd_agr hf11 (m.a00 (Enc.rd_lt hf11))) ⟨207, [.pointer (some (⟨b14, 0, none⟩ : Addr))], rfl, call207, fun w y234 v235 r e hv236 hx => by subst hv236; have m := m.step e; exact c_impl_namesOk_3 fu _ _ (hb15.agr (m.a 1 rfl) (by simp)) (Enc.rd_agr hf11 (m.a00 (Enc.rd_lt hf11))) (Enc.rd_agr hf12 (m.a00 (Enc.rd_lt hf12))) (Enc.rd_agr hf13 (m.a00 (Enc.rd_lt hf13))) hx⟩ hx238) fun w240 e a k m => pN 3 k rfl fun a k => nn (wp_ret (fS h k m rfl rfl))
     have h := bif_f hb233 h
     refine rB k 52 rfl hb233 fun k => pN 7 k rfl fun a k => nn (wp_ret (fS h k m rfl rfl))
   exact ⟨0, k.keep [1, 25, 26, 27] rfl, m.sel [0] rfl (by decide), h⟩
 exact ⟨0, k.keep [1, 10, 11, 12] rfl, m.sel [0] rfl (by decide), h⟩
theorem c_slices_Index_impl_Pair_impl_Pair (fu : Nat) {w0 : World} (sv1 : List Pair) (v5 : Pair) {v2 : Value} {F3 : List Nat} (hp4 : rd w0 F3 [v2] sv1) {r : Int}
    (h : d_slices_Index_impl_Pair_impl_Pair fu sv1 v5 = some r) :
    Calls Tryz.prog 226 #[v2, .agg (Flat.e (v5)).toArray] w0 fun e w => e = .returned (.int .i64 r) ∧ Ext [] w0 w := by
 refine enter (vs := [_, _]) func226 rfl ntmps226 rfl fun a k => ?_
 have m := St.start w0
 unfold d_slices_Index_impl_Pair_impl_Pair at h
 refine wr (s_box (cs := [.int .i64 v5.fA, .int .i64 v5.fB]) m k rfl rfl rfl rfl rfl rfl fun b6 w8 a k m e hb7 => pN 1 k rfl fun a k => nn (wp_seq (wr (pN 1 k rfl fun a k => sv k rfl (r_len (α := Pair) hp4 k underlying36 rfl rfl) fun a k => pN 1 k rfl fun a k => nn (wp_block (c_loop (fun n a w => ∃ (x23 : Int), K 19 [(0, v2), (3, .pointer (some (⟨b6, 0, none⟩ : Addr))), (7, .int .i64 ((sv1.length : Int))), (8, .int .i64 x23)] a ∧ St [] w0 w [([b6], w8)] ∧ d_slices_Index_impl_Pair_impl_Pair_L1 fu sv1 v5 n x23 = some r) ?_ ?_ fu _ _ ?_))))))
 · rintro a w ⟨_, _, _, h⟩
   exact nS h
 · rintro m24 a w22 ⟨x23, k, m, h⟩
   rw [d_slices_Index_impl_Pair_impl_Pair_L1_s] at h
   unfold d_slices_Index_impl_Pair_impl_Pair_L1_B at h
   refine wr (pN 1 k rfl fun a k => nn (wp_seq (cI h k rfl (fun hb25 h => ?_) fun hb25 h => ?_)))
   · refine wp_skip (nm_then ?_)
     refine wp_seq (wp_block (wr (pN 2 k rfl fun a k => nn (wp_seq (d_go [] mixo m rfl fun w26 hMd => ?_)))))
     have m := hMd
     have s := Ext.refl ([] : List Nat) w26
     refine dt k 0 rfl (by kernel_rfl) rfl s (fun _ _ _ => id) (fun w s => r_ldA ta144 (hb7.at ((hMd.step s).a 0 rfl) 0 2 rfl rfl rfl) rfl k rfl rfl) fun a k => dp k 1 rfl (by kernel_rfl) rfl s (fun _ _ _ => id) rfl fun a k => dp k 2 rfl (by kernel_rfl) rfl s (fun _ _ _ => id) rfl fun a k => oE h fun x27 hx28 h => dt k 3 rfl (by kernel_rfl) rfl s (fun _ _ _ => id) (fun w s => r_ixa hp4 hx28 k ts36 rfl rfl rfl) fun a k => dt k 4 rfl (by kernel_rfl) rfl s (fun _ _ _ => id) (fun w s => r_lde hp4 ((hMd.step s).a00 (Enc.rd_lt hp4)) hx28 ta144 k rfl rfl) fun a k => dt k 5 rfl (by kernel_rfl) rfl s (fun _ _ _ => id) (fun w s => r_eqs seq144 (x := v5) (y := x27) k rfl rfl rfl rfl rfl) fun a k => d_done (by kernel_rfl) ((nm_then ?_))
     refine cI h k rfl (fun hb29 h => ?_) fun hb29 h => ?_
     · refine wr (pN 2 k rfl fun a k => nn (wp_ret (rt_block (rt_then (rt_then (rt_block (rt_then ?_)))))))
       refine fS h k m rfl rfl
     refine wp_skip (nm_block (nm_then ?_))
     refine wp_region_lit (pN 2 k rfl fun a k => nn ?_)
     exact ⟨w64 (x23 + 1), k.keep [0, 3, 7, 8] rfl, m.sel [0] rfl (by decide), h⟩
   refine wp_exit (ex_then (ex_then (ex_same (nm_then ?_))))
   refine wr (pN 1 k rfl fun a k => nn (wp_ret (fS h k m rfl rfl)))
 exact ⟨0, k.keep [0, 3, 7, 8] rfl, m.sel [0] rfl (by decide), h⟩
theorem c_slices_Contains_impl_Pair_impl_Pair (fu : Nat) {w0 : World} (sv1 : List Pair) (v5 : Pair) {v2 : Value} {F3 : List Nat} (hp4 : rd w0 F3 [v2] sv1) {r : Bool}
    (h : d_slices_Contains_impl_Pair_impl_Pair fu sv1 v5 = some r) :
    Calls Tryz.prog 211 #[v2, .agg (Flat.e (v5)).toArray] w0 fun e w => e = .returned (.bool (r)) ∧ Ext [] w0 w := by
 refine enter (vs := [_, _]) func211 rfl ntmps211 rfl fun a k => ?_
 have m := St.start w0
 unfold d_slices_Contains_impl_Pair_impl_Pair at h
 refine wr (s_box (cs := [.int .i64 v5.fA, .int .i64 v5.fB]) m k rfl rfl rfl rfl rfl rfl fun b6 w8 a k m e hb7 => pN 1 k rfl fun a k => nn (wr (pN 1 k rfl fun a k => sv k rfl (r_ldB ta144 m 0 hb7 0 k rfl rfl rfl rfl rfl rfl) fun a k => oE h fun x9 hx10 h => cE k m call226 rfl rfl rfl (c_slices_Index_impl_Pair_impl_Pair fu _ (v5 : Pair) (Enc.rd_agr hp4 (m.a00 (Enc.rd_lt hp4))) hx10) fun w12 e a k m => pN 2 k rfl fun a k => nn (wp_ret (fS h k m rfl rfl)))))
theorem c_impl_Beside (fu : Nat) {w0 : World} (pairs1 : List Pair) (a5 : Int) (b6 : Int) {v2 : Value} {F3 : List Nat} (hp4 : rd w0 F3 [v2] pairs1) {r : Bool}
    (h : d_impl_Beside fu pairs1 a5 b6 = some r) :
    Calls Tryz.prog 192 #[v2, .int .i64 a5, .int .i64 b6] w0 fun e w => e = .returned (.bool (r)) ∧ Ext [] w0 w := by
 refine enter (vs := [_, _, _]) func192 rfl ntmps192 rfl fun a k => ?_
 have m := St.start w0
 unfold d_impl_Beside at h
 refine wr (pN 1 k rfl fun a k => nn (wr (pN 3 k rfl fun a k => sv k rfl (r_build bt144 k (ps := [(0, .tmp 8), (1, .tmp 9)]) rfl rfl rfl) fun a k => oE h fun x7 hx8 h => cE k m call211 rfl rfl rfl (c_slices_Contains_impl_Pair_impl_Pair fu _ (((⟨a5, b6⟩ : Pair)) : Pair) (Enc.rd_agr hp4 (m.a00 (Enc.rd_lt hp4))) hx8) fun w10 e a k m => pN 1 k rfl fun a k => nn (wp_ret (fS h k m rfl rfl)))))
theorem c_impl_TableOk (fu : Nat) {w0 : World} (pairs1 : List Pair) (classes5 : Int) {v2 : Value} {F3 : List Nat} (hp4 : rd w0 F3 [v2] pairs1) {r : Bool}
    (h : d_impl_TableOk fu pairs1 classes5 = some r) :
    Calls Tryz.prog 181 #[v2, .int .i64 classes5] w0 fun e w => e = .returned (.bool (r)) ∧ Ext [] w0 w := by
 refine enter (vs := [_, _]) func181 rfl ntmps181 rfl fun a k => ?_
 have m := St.start w0
 unfold d_impl_TableOk at h
 refine wr (pN 1 k rfl fun a k => nn (wp_seq (wr (pN 1 k rfl fun a k => oE h fun x6 hx7 h => cE k m call99 rfl rfl rfl (c_impl_in fu _ _ _  hx7) fun w9 e a k m => pN 1 k rfl fun a k => nn (cI h k rfl (fun hb10 h => ?_) fun hb10 h => ?_)))))
 · refine wr (pN 1 k rfl fun a k => nn (wp_ret (rt_then ?_)))
   refine fS h k m rfl rfl
 refine wp_skip (nm_then ?_)
 refine wp_seq (wr (pN 2 k rfl fun a k => nn (wp_block (c_loop (fun n a w => ∃ (x99 : Int), K 34 [(0, v2), (1, .int .i64 classes5), (10, .int .i64 classes5), (11, .int .i64 x99)] a ∧ St [] w0 w [] ∧ d_impl_TableOk_L2 fu pairs1 classes5 n x99 = some r) ?_ ?_ fu _ _ ?_))))
 · rintro a w ⟨_, _, _, h⟩
   exact nS h
 · rintro m100 a w98 ⟨x99, k, m, h⟩
   rw [d_impl_TableOk_L2_s] at h
   unfold d_impl_TableOk_L2_B at h
   refine wr (pN 1 k rfl fun a k => nn (wp_seq (cI h k rfl (fun hb101 h => ?_) fun hb101 h => ?_)))
   · refine wp_skip (nm_then ?_)
     refine wp_seq (wp_block (wr (pN 2 k rfl fun a k => nn (wp_seq (wr (pN 3 k rfl fun a k => oE h fun x102 hx103 h => cE k m call192 rfl rfl rfl (c_impl_Beside fu _ _ _ (Enc.rd_agr hp4 (m.a00 (Enc.rd_lt hp4))) hx103) fun w105 e a k m => pN 1 k rfl fun a k => nn (cI h k rfl (fun hb106 h => ?_) fun hb106 h => ?_)))))))
     · refine wr (pN 1 k rfl fun a k => nn (wp_ret (rt_then (rt_block (rt_then (rt_then (rt_block (rt_then ?_))))))))
       refine fS h k m rfl rfl
     refine wp_skip (nm_then ?_)
     refine wr (pN 2 k rfl fun a k => nn (wp_block (c_loop (fun n a w => ∃ (x131 : Int), K 34 [(0, v2), (1, .int .i64 classes5), (5, .int .i64 x99), (10, .int .i64 classes5), (11, .int .i64 x99), (19, .int .i64 classes5), (20, .int .i64 x131)] a ∧ St [] w0 w [] ∧ d_impl_TableOk_L1 fu (d_impl_TableOk_L2 fu pairs1 classes5 m100) pairs1 classes5 x99 n x131 = some r) ?_ ?_ fu _ _ ?_)))
     · rintro a w ⟨_, _, _, h⟩
       exact nS h
     · rintro m132 a w130 ⟨x131, k, m, h⟩
       rw [d_impl_TableOk_L1_s] at h
       unfold d_impl_TableOk_L1_B at h
       refine wr (pN 1 k rfl fun a k => nn (wp_seq (cI h k rfl (fun hb133 h => ?_) fun hb133 h => ?_)))
       · refine wp_skip (nm_then ?_)
         refine wp_seq (wp_block (wr (pN 2 k rfl fun a k => nn (wr (pN 3 k rfl fun a k => oE h fun x134 hx135 h => cE k m call192 rfl rfl rfl (c_impl_Beside fu _ _ _ (Enc.rd_agr hp4 (m.a00 (Enc.rd_lt hp4))) hx135) fun w137 e a k m => pN 3 k rfl fun a k => oE h fun x138 hx139 h => cE k m call192 rfl rfl rfl (c_impl_Beside fu _ _ _ (Enc.rd_agr hp4 (m.a00 (Enc.rd_lt hp4))) hx139) fun w141 e a k m => sv k rfl (r_neb k underlying4 rfl rfl rfl) fun a k => nn (cI h k rfl (fun hb142 h => ?_) fun hb142 h => ?_))))))
         · refine wr (pN 1 k rfl fun a k => nn (wp_ret (rt_block (rt_then (rt_then (rt_block (rt_block (rt_then (rt_then (rt_block (rt_then ?_)))))))))))
           refine fS h k m rfl rfl
         refine wp_skip (nm_block (nm_then ?_))
         refine wp_region_lit (pN 2 k rfl fun a k => nn ?_)
         exact ⟨w64 (x131 + 1), k.keep [0, 1, 5, 10, 11, 19, 20] rfl, m.sel [] rfl (by decide), h⟩
       refine wp_exit (ex_then (ex_then (ex_same (nm_block (nm_then ?_)))))
       refine wp_region_lit (pN 2 k rfl fun a k => nn ?_)
       exact ⟨w64 (x99 + 1), k.keep [0, 1, 10, 11] rfl, m.sel [] rfl (by decide), h⟩
     exact ⟨0, k.keep [0, 1, 5, 10, 11, 19, 20] rfl, m.sel [] rfl (by decide), h⟩
   refine wp_exit (ex_then (ex_then (ex_same (nm_then ?_))))
   refine wr (pN 1 k rfl fun a k => nn (wp_ret (fS h k m rfl rfl)))
 exact ⟨0, k.keep [0, 1, 10, 11] rfl, m.sel [] rfl (by decide), h⟩
theorem c_slices_Sort_int_int (fu : Nat) {w0 : World} (x1 : List Int) {v2 : Value} {F3 : List Nat} (hp4 : ow w0 F3 [v2] x1) {r : List Int}
    (h : d_slices_Sort_int_int fu x1 = some r) :
    Calls Tryz.prog 164 #[v2] w0 fun e w => ∃ H : List Nat, e = .returned (.tuple #[]) ∧ Ext F3 w0 w ∧ (∀ b ∈ H, b ∈ F3 ∨ w0.heap.size ≤ b) ∧ ow w H [v2] r :=
  (c_sortInt (fun blk off cap zs w => Tryz.slices_Sort_int blk off cap zs w) (fun p cap w => Tryz.slices_Sort_int_none p cap w) x1 hp4 h).mono fun e w ⟨h1, h2, h3⟩ => ⟨_, h1, h2, fun b hb => .inl hb, h3⟩

theorem c_impl_Fits (fu : Nat) {w0 : World} (x1 : Item) (t2 : Typ)  {r : Bool}
    (h : d_impl_Fits fu x1 t2 = some r) :
    Calls Tryz.prog 183 #[.agg (Flat.e (x1)).toArray, .agg (Flat.e (t2)).toArray] w0 fun e w => e = .returned (.bool (r)) ∧ Ext [] w0 w := by
 refine enter (vs := [_, _]) func183 rfl ntmps183 rfl fun a k => ?_
 have m := St.start w0
 unfold d_impl_Fits at h
 refine wr (s_box (cs := [.int .i64 x1.fId, .int .i64 x1.fW, .int .i64 x1.fH, .int .i64 x1.fD, .int .i64 x1.fGram, .int .i64 x1.fClass, .int .i64 x1.fCount]) m k rfl rfl rfl rfl rfl rfl fun b3 w5 a k m e hb4 => s_box (cs := [.int .i64 t2.fId, .int .i64 t2.fW, .int .i64 t2.fH, .int .i64 t2.fD, .int .i64 t2.fTare, .int .i64 t2.fGram, .int .i64 t2.fCost]) m k rfl rfl rfl rfl rfl rfl fun b6 w8 a k m e hb7 => pN 1 k rfl fun a k => nn ?_)
 refine c_cut (fun a w => ∃ (a39 : List Int) (v40 : Value) (F41 : List Nat) (u42 : World) (b44 : List Int) (v45 : Value) (F46 : List Nat) (u47 : World), K 57 [(2, .pointer (some (⟨b3, 0, none⟩ : Addr))), (3, .pointer (some (⟨b6, 0, none⟩ : Addr))), (5, v40), (6, v45)] a ∧ St [] w0 w [([b3], w5), ([b6], w8), (F41, u42), (F46, u47)] ∧ ow u42 F41 [v40] a39 ∧ ow u47 F46 [v45] b44 ∧ d_impl_Fits_J1 fu x1 t2 a39 b44 = some r) ?_ ?_
 · rintro a w38 ⟨a39, v40, F41, u42, b44, v45, F46, u47, k, m, hf43, hf48, h⟩
   unfold d_impl_Fits_J1 at h
   refine wr (pN 1 k rfl fun a k => oE h fun x49 hx50 h => s_call k call164 rfl rfl rfl rfl rfl (c_slices_Sort_int_int fu _ (Enc.ow_agr hf43 (m.a 2 rfl)) hx50) fun e51 w52 hR => ?_)
   obtain ⟨F55, rfl, e, hlo54, hf53⟩ := hR
   refine ⟨_, rfl, fun a k => ?_⟩
   have m := m.mut 2 rfl e _ (fun b hb => ⟨hlo54 b hb, Enc.rd_lt (Enc.ow_rd hf53) b hb⟩) (Enc.ow_nd hf53)
   refine nn (wr (pN 1 k rfl fun a k => oE h fun x56 hx57 h => s_call k call164 rfl rfl rfl rfl rfl (c_slices_Sort_int_int fu _ (Enc.ow_agr hf48 (m.a 3 rfl)) hx57) fun e58 w59 hR => ?_))
   obtain ⟨F62, rfl, e, hlo61, hf60⟩ := hR
   refine ⟨_, rfl, fun a k => ?_⟩
   have m := m.mut 3 rfl e _ (fun b hb => ⟨hlo61 b hb, Enc.rd_lt (Enc.ow_rd hf60) b hb⟩) (Enc.ow_nd hf60)
   refine nn (wp_seq (d_go [] mixo m rfl fun w63 hMd => ?_))
   have m := hMd
   have s := Ext.refl ([] : List Nat) w63
   refine dp k 0 rfl (by kernel_rfl) rfl s (fun _ _ _ => id) rfl fun a k => oE h fun x64 hx65 h => dt k 1 rfl (by kernel_rfl) rfl s (fun _ _ _ => id) (fun w s => r_ixa (Enc.ow_rd hf53) hx65 k ts29 rfl rfl rfl) fun a k => dt k 2 rfl (by kernel_rfl) rfl s (fun _ _ _ => id) (fun w s => r_lde1 (Enc.ow_rd hf53) ((hMd.step s).a 2 rfl) hx65 0 t13 k rfl rfl rfl rfl) fun a k => dp k 3 rfl (by kernel_rfl) rfl s (fun _ _ _ => id) rfl fun a k => oE h fun x66 hx67 h => dt k 4 rfl (by kernel_rfl) rfl s (fun _ _ _ => id) (fun w s => r_ixa (Enc.ow_rd hf60) hx67 k ts29 rfl rfl rfl) fun a k => dt k 5 rfl (by kernel_rfl) rfl s (fun _ _ _ => id) (fun w s => r_lde1 (Enc.ow_rd hf60) ((hMd.step s).a 3 rfl) hx67 0 t13 k rfl rfl rfl rfl) fun a k => dp k 6 rfl (by kernel_rfl) rfl s (fun _ _ _ => id) rfl fun a k => ?_
   refine dp k 7 rfl (by kernel_rfl) rfl s (fun _ _ _ => id) rfl fun a k => bsplit (decide (x64 ≤ x66)) (fun hb68 => ?_) (fun hb68 => ?_)
   · have h := bif_t hb68 h
     refine rB k 32 rfl hb68 fun k => dp k 8 rfl (by kernel_rfl) rfl s (fun _ _ _ => id) rfl fun a k => oE h fun x69 hx70 h => dt k 9 rfl (by kernel_rfl) rfl s (fun _ _ _ => id) (fun w s => r_ixa (Enc.ow_rd hf53) hx70 k ts29 rfl rfl rfl) fun a k => dt k 10 rfl (by kernel_rfl) rfl s (fun _ _ _ => id) (fun w s => r_lde1 (Enc.ow_rd hf53) ((hMd.step s).a 2 rfl) hx70 0 t13 k rfl rfl rfl rfl) fun a k => dp k 11 rfl (by kernel_rfl) rfl s (fun _ _ _ => id) rfl fun a k => oE h fun x71 hx72 h => dt k 12 rfl (by kernel_rfl) rfl s (fun _ _ _ => id) (fun w s => r_ixa (Enc.ow_rd hf60) hx72 k ts29 rfl rfl rfl) fun a k => dt k 13 rfl (by kernel_rfl) rfl s (fun _ _ _ => id) (fun w s => r_lde1 (Enc.ow_rd hf60) ((hMd.step s).a 3 rfl) hx72 0 t13 k rfl rfl rfl rfl) fun a k => dp k 14 rfl (by kernel_rfl) rfl s (fun _ _ _ => id) rfl fun a k => ?_
     refine dp k 15 rfl (by kernel_rfl) rfl s (fun _ _ _ => id) rfl fun a k => dp k 16 rfl (by kernel_rfl) rfl s (fun _ _ _ => id) rfl fun a k => bsplit (decide (x69 ≤ x71)) (fun hb73 => ?_) (fun hb73 => ?_)
     · have h := bif_t hb73 h
       refine rB k 41 rfl hb73 fun k => dp k 17 rfl (by kernel_rfl) rfl s (fun _ _ _ => id) rfl fun a k => oE h fun x74 hx75 h => dt k 18 rfl (by kernel_rfl) rfl s (fun _ _ _ => id) (fun w s => r_ixa (Enc.ow_rd hf53) hx75 k ts29 rfl rfl rfl) fun a k => dt k 19 rfl (by kernel_rfl) rfl s (fun _ _ _ => id) (fun w s => r_lde1 (Enc.ow_rd hf53) ((hMd.step s).a 2 rfl) hx75 0 t13 k rfl rfl rfl rfl) fun a k => dp k 20 rfl (by kernel_rfl) rfl s (fun _ _ _ => id) rfl fun a k => oE h fun x76 hx77 h => dt k 21 rfl (by kernel_rfl) rfl s (fun _ _ _ => id) (fun w s => r_ixa (Enc.ow_rd hf60) hx77 k ts29 rfl rfl rfl) fun a k => dt k 22 rfl (by kernel_rfl) rfl s (fun _ _ _ => id) (fun w s => r_lde1 (Enc.ow_rd hf60) ((hMd.step s).a 3 rfl) hx77 0 t13 k rfl rfl rfl rfl) fun a k => dp k 23 rfl (by kernel_rfl) rfl s (fun _ _ _ => id) rfl fun a k => ?_
       refine dp k 24 rfl (by kernel_rfl) rfl s (fun _ _ _ => id) rfl fun a k => dp k 25 rfl (by kernel_rfl) rfl s (fun _ _ _ => id) rfl fun a k => bsplit (decide (x74 ≤ x76)) (fun hb78 => ?_) (fun hb78 => ?_)
       · have h := bif_t hb78 h
         refine rB k 50 rfl hb78 fun k => dt k 26 rfl (by kernel_rfl) rfl s (fun _ _ _ => id) (fun w s => r_fa fa120_4 k rfl rfl) fun a k => dt k 27 rfl (by kernel_rfl) rfl s (fun _ _ _ => id) (fun w s => r_ld1 t13 (r := []) (hb4.at ((hMd.step s).a 0 rfl) 4 1 rfl rfl rfl) k rfl rfl) fun a k => dt k 28 rfl (by kernel_rfl) rfl s (fun _ _ _ => id) (fun w s => r_fa fa92_5 k rfl rfl) fun a k => dt k 29 rfl (by kernel_rfl) rfl s (fun _ _ _ => id) (fun w s => r_ld1 t13 (r := []) (hb7.at ((hMd.step s).a 1 rfl) 5 1 rfl rfl rfl) k rfl rfl) fun a k => dp k 30 rfl (by kernel_rfl) rfl s (fun _ _ _ => id) rfl fun a k => dp k 31 rfl (by kernel_rfl) rfl s (fun _ _ _ => id) rfl fun a k => dp k 32 rfl (by kernel_rfl) rfl s (fun _ _ _ => id) rfl fun a k => d_done (by kernel_rfl) ?_
         have k := k.keep [4] rfl
         refine (nm_then ?_)
         refine wp_ret (fS h k m rfl rfl)
       have h := bif_f hb78 h
       refine rB k 50 rfl hb78 fun k => ds k 26 rfl (by kernel_rfl) rfl s (fun _ _ _ => id) fun a k => ds k 27 rfl (by kernel_rfl) rfl s (fun _ _ _ => id) fun a k => ds k 28 rfl (by kernel_rfl) rfl s (fun _ _ _ => id) fun a k => ds k 29 rfl (by kernel_rfl) rfl s (fun _ _ _ => id) fun a k => ds k 30 rfl (by kernel_rfl) rfl s (fun _ _ _ => id) fun a k => dp k 31 rfl (by kernel_rfl) rfl s (fun _ _ _ => id) rfl fun a k => dp k 32 rfl (by kernel_rfl) rfl s (fun _ _ _ => id) rfl fun a k => d_done (by kernel_rfl) ?_
       have k := k.keep [4] rfl
       refine (nm_then ?_)
       refine wp_ret (fS h k m rfl rfl)
     have h := bif_f hb73 h
     refine rB k 41 rfl hb73 fun k => ds k 17 rfl (by kernel_rfl) rfl s (fun _ _ _ => id) fun a k => ds k 18 rfl (by kernel_rfl) rfl s (fun _ _ _ => id) fun a k => ds k 19 rfl (by kernel_rfl) rfl s (fun _ _ _ => id) fun a k => ds k 20 rfl (by kernel_rfl) rfl s (fun _ _ _ => id) fun a k => ds k 21 rfl (by kernel_rfl) rfl s (fun _ _ _ => id) fun a k => ds k 22 rfl (by kernel_rfl) rfl s (fun _ _ _ => id) fun a k => ds k 23 rfl (by kernel_rfl) rfl s (fun _ _ _ => id) fun a k => dp k 24 rfl (by kernel_rfl) rfl s (fun _ _ _ => id) rfl fun a k => dp k 25 rfl (by kernel_rfl) rfl s (fun _ _ _ => id) rfl fun a k => ds k 26 rfl (by kernel_rfl) rfl s (fun _ _ _ => id) fun a k => ds k 27 rfl (by kernel_rfl) rfl s (fun _ _ _ => id) fun a k => ds k 28 rfl (by kernel_rfl) rfl s (fun _ _ _ => id) fun a k => ?_
     refine ds k 29 rfl (by kernel_rfl) rfl s (fun _ _ _ => id) fun a k => ds k 30 rfl (by kernel_rfl) rfl s (fun _ _ _ => id) fun a k => dp k 31 rfl (by kernel_rfl) rfl s (fun _ _ _ => id) rfl fun a k => dp k 32 rfl (by kernel_rfl) rfl s (fun _ _ _ => id) rfl fun a k => d_done (by kernel_rfl) ?_
     have k := k.keep [4] rfl
     refine (nm_then ?_)
     refine wp_ret (fS h k m rfl rfl)
   have h := bif_f hb68 h
   refine rB k 32 rfl hb68 fun k => ds k 8 rfl (by kernel_rfl) rfl s (fun _ _ _ => id) fun a k => ds k 9 rfl (by kernel_rfl) rfl s (fun _ _ _ => id) fun a k => ds k 10 rfl (by kernel_rfl) rfl s (fun _ _ _ => id) fun a k => ds k 11 rfl (by kernel_rfl) rfl s (fun _ _ _ => id) fun a k => ds k 12 rfl (by kernel_rfl) rfl s (fun _ _ _ => id) fun a k => ds k 13 rfl (by kernel_rfl) rfl s (fun _ _ _ => id) fun a k => ds k 14 rfl (by kernel_rfl) rfl s (fun _ _ _ => id) fun a k => dp k 15 rfl (by kernel_rfl) rfl s (fun _ _ _ => id) rfl fun a k => dp k 16 rfl (by kernel_rfl) rfl s (fun _ _ _ => id) rfl fun a k => ds k 17 rfl (by kernel_rfl) rfl s (fun _ _ _ => id) fun a k => ds k 18 rfl (by kernel_rfl) rfl s (fun _ _ _ => id) fun a k => ds k 19 rfl (by kernel_rfl) rfl s (fun _ _ _ => id) fun a k => ?_
   refine ds k 20 rfl (by kernel_rfl) rfl s (fun _ _ _ => id) fun a k => ds k 21 rfl (by kernel_rfl) rfl s (fun _ _ _ => id) fun a k => ds k 22 rfl (by kernel_rfl) rfl s (fun _ _ _ => id) fun a k => ds k 23 rfl (by kernel_rfl) rfl s (fun _ _ _ => id) fun a k => dp k 24 rfl (by kernel_rfl) rfl s (fun _ _ _ => id) rfl fun a k => dp k 25 rfl (by kernel_rfl) rfl s (fun _ _ _ => id) rfl fun a k => ds k 26 rfl (by kernel_rfl) rfl s (fun _ _ _ => id) fun a k => ds k 27 rfl (by kernel_rfl) rfl s (fun _ _ _ => id) fun a k => ds k 28 rfl (by kernel_rfl) rfl s (fun _ _ _ => id) fun a k => ds k 29 rfl (by kernel_rfl) rfl s (fun _ _ _ => id) fun a k => ds k 30 rfl (by kernel_rfl) rfl s (fun _ _ _ => id) fun a k => dp k 31 rfl (by kernel_rfl) rfl s (fun _ _ _ => id) rfl fun a k => dp k 32 rfl (by kernel_rfl) rfl s (fun _ _ _ => id) rfl fun a k => ?_
   refine d_done (by kernel_rfl) ?_
   have k := k.keep [4] rfl
   refine (nm_then ?_)
   refine wp_ret (fS h k m rfl rfl)
 refine d_go [] mixo m rfl fun w79 hMd => ?_
 have m := hMd
 have s := Ext.refl ([] : List Nat) w79
 refine dt k 0 rfl (by kernel_rfl) rfl s (fun _ _ _ => id) (fun w s => r_fa fa120_1 k rfl rfl) fun a k => dt k 1 rfl (by kernel_rfl) rfl s (fun _ _ _ => id) (fun w s => r_ld1 t13 (r := []) (hb4.at ((hMd.step s).a 1 rfl) 1 1 rfl rfl rfl) k rfl rfl) fun a k => dt k 2 rfl (by kernel_rfl) rfl s (fun _ _ _ => id) (fun w s => r_fa fa120_2 k rfl rfl) fun a k => dt k 3 rfl (by kernel_rfl) rfl s (fun _ _ _ => id) (fun w s => r_ld1 t13 (r := []) (hb4.at ((hMd.step s).a 1 rfl) 2 1 rfl rfl rfl) k rfl rfl) fun a k => dt k 4 rfl (by kernel_rfl) rfl s (fun _ _ _ => id) (fun w s => r_fa fa120_3 k rfl rfl) fun a k => dt k 5 rfl (by kernel_rfl) rfl s (fun _ _ _ => id) (fun w s => r_ld1 t13 (r := []) (hb4.at ((hMd.step s).a 1 rfl) 3 1 rfl rfl rfl) k rfl rfl) fun a k => ?_
 refine dt k 7 rfl (by kernel_rfl) rfl s (fun _ _ _ => id) (fun w s => r_fa fa92_1 k rfl rfl) fun a k => dt k 8 rfl (by kernel_rfl) rfl s (fun _ _ _ => id) (fun w s => r_ld1 t13 (r := []) (hb7.at ((hMd.step s).a 0 rfl) 1 1 rfl rfl rfl) k rfl rfl) fun a k => dt k 9 rfl (by kernel_rfl) rfl s (fun _ _ _ => id) (fun w s => r_fa fa92_2 k rfl rfl) fun a k => dt k 10 rfl (by kernel_rfl) rfl s (fun _ _ _ => id) (fun w s => r_ld1 t13 (r := []) (hb7.at ((hMd.step s).a 0 rfl) 2 1 rfl rfl rfl) k rfl rfl) fun a k => dt k 11 rfl (by kernel_rfl) rfl s (fun _ _ _ => id) (fun w s => r_fa fa92_3 k rfl rfl) fun a k => dt k 12 rfl (by kernel_rfl) rfl s (fun _ _ _ => id) (fun w s => r_ld1 t13 (r := []) (hb7.at ((hMd.step s).a 0 rfl) 3 1 rfl rfl rfl) k rfl rfl) fun a k => d_two 6 13 (by kernel_rfl) rfl rfl ?_ ?_ 
 · refine s_bsN (cs := [.int .i64 x1.fW, .int .i64 x1.fH, .int .i64 x1.fD]) (ps := [(0, .tmp 8), (1, .tmp 10), (2, .tmp 12)]) te29 m k rfl rfl rfl rfl rfl rfl rfl (by decide) rfl (by exact (List.forall_mem_cons.2 ⟨rfl, (List.forall_mem_cons.2 ⟨rfl, (List.forall_mem_cons.2 ⟨rfl, (List.forall_mem_nil _)⟩)⟩)⟩)) fun g80 w81 e83 a k m e hb82 hgn84 => ?_
   have hlo86 := lo1 (Nat.le_trans s.size hgn84)
   have hf85 := ow_bx hb82 ([x1.fW, x1.fH, x1.fD] : List Int) rfl rfl rfl
   have s := s.trans e (by simp)
   refine wpList_nil ⟨s, ?_⟩
   refine dp k 14 rfl (by kernel_rfl) rfl s (fun _ _ _ => id) rfl fun a k => d_one 13 (by kernel_rfl) rfl (s_bsN (cs := [.int .i64 t2.fW, .int .i64 t2.fH, .int .i64 t2.fD]) (ps := [(0, .tmp 15), (1, .tmp 17), (2, .tmp 19)]) te29 m k rfl rfl rfl rfl rfl rfl rfl (by decide) rfl (by exact (List.forall_mem_cons.2 ⟨rfl, (List.forall_mem_cons.2 ⟨rfl, (List.forall_mem_cons.2 ⟨rfl, (List.forall_mem_nil _)⟩)⟩)⟩)) fun g87 w88 e90 a k m e hb89 hgn91 => ?_)
   have hlo93 := lo1 (Nat.le_trans s.size hgn91)
   have hf92 := ow_bx hb89 ([t2.fW, t2.fH, t2.fD] : List Int) rfl rfl rfl
   have s := s.trans e (by simp)
   refine wpList_nil ⟨s, ?_⟩
   refine dp k 15 rfl (by kernel_rfl) rfl s (fun _ _ _ => id) rfl fun a k => d_done (by kernel_rfl) ((nm_then ?_))
   exact ⟨([x1.fW, x1.fH, x1.fD] : List Int), (.slice (some ⟨g80, 0, none⟩) 3 3), [g80], w81, ([t2.fW, t2.fH, t2.fD] : List Int), (.slice (some ⟨g87, 0, none⟩) 3 3), [g87], w88, k.keep [2, 3, 5, 6] rfl, m.sel [3, 2, 1, 0] rfl (by decide), hf85, hf92, h⟩
 refine s_bsN (cs := [.int .i64 t2.fW, .int .i64 t2.fH, .int .i64 t2.fD]) (ps := [(0, .tmp 15), (1, .tmp 17), (2, .tmp 19)]) te29 m k rfl rfl rfl rfl rfl rfl rfl (by decide) rfl (by exact (List.forall_mem_cons.2 ⟨rfl, (List.forall_mem_cons.2 ⟨rfl, (List.forall_mem_cons.2 ⟨rfl, (List.forall_mem_nil _)⟩)⟩)⟩)) fun g94 w95 e97 a k m e hb96 hgn98 => ?_
 have hlo100 := lo1 (Nat.le_trans s.size hgn98)
 have hf99 := ow_bx hb96 ([t2.fW, t2.fH, t2.fD] : List Int) rfl rfl rfl
 have s := s.trans e (by simp)
 refine wpList_nil ⟨s, ?_⟩
 refine d_one 6 (by kernel_rfl) rfl (s_bsN (cs := [.int .i64 x1.fW, .int .i64 x1.fH, .int .i64 x1.fD]) (ps := [(0, .tmp 8), (1, .tmp 10), (2, .tmp 12)]) te29 m k rfl rfl rfl rfl rfl rfl rfl (by decide) rfl (by exact (List.forall_mem_cons.2 ⟨rfl, (List.forall_mem_cons.2 ⟨rfl, (List.forall_mem_cons.2 ⟨rfl, (List.forall_mem_nil _)⟩)⟩)⟩)) fun g101 w102 e104 a k m e hb103 hgn105 => ?_)
 have hlo107 := lo1 (Nat.le_trans s.size hgn105)
 have hf106 := ow_bx hb103 ([x1.fW, x1.fH, x1.fD] : List Int) rfl rfl rfl
 have s := s.trans e (by simp)
 refine wpList_nil ⟨s, ?_⟩
 refine dp k 14 rfl (by kernel_rfl) rfl s (fun _ _ _ => id) rfl fun a k => dp k 15 rfl (by kernel_rfl) rfl s (fun _ _ _ => id) rfl fun a k => d_done (by kernel_rfl) ((nm_then ?_))
 exact ⟨([x1.fW, x1.fH, x1.fD] : List Int), (.slice (some ⟨g101, 0, none⟩) 3 3), [g101], w102, ([t2.fW, t2.fH, t2.fD] : List Int), (.slice (some ⟨g94, 0, none⟩) 3 3), [g94], w95, k.keep [2, 3, 5, 6] rfl, m.sel [3, 2, 0, 1] rfl (by decide), hf106, hf99, h⟩
theorem c_impl_Class_1 (fu : Nat) {w0 : World} (x1 : Item) (x2 : Typ) {b3 : Nat} (hp4 : bx w0 b3 [.int .i64 x2.fId, .int .i64 x2.fW, .int .i64 x2.fH, .int .i64 x2.fD, .int .i64 x2.fTare, .int .i64 x2.fGram, .int .i64 x2.fCost] 92) {r : Bool}
    (h : d_impl_Class_1 fu x1 x2 = some r) :
    Calls Tryz.prog 182 #[.agg (Flat.e (x1)).toArray, .pointer (some (⟨b3, 0, none⟩ : Addr))] w0 fun e w => e = .returned (.bool (r)) ∧ Ext [] w0 w := by
 refine enter (vs := [_, _]) func182 rfl ntmps182 rfl fun a k => ?_
 have m := St.start w0
 unfold d_impl_Class_1 at h
 refine wr (s_box (cs := [.int .i64 x1.fId, .int .i64 x1.fW, .int .i64 x1.fH, .int .i64 x1.fD, .int .i64 x1.fGram, .int .i64 x1.fClass, .int .i64 x1.fCount]) m k rfl rfl rfl rfl rfl rfl fun b5 w7 a k m e hb6 => pN 1 k rfl fun a k => nn (wr (sv k rfl (r_ldB ta120 m 0 hb6 0 k rfl rfl rfl rfl rfl rfl) fun a k => sv k rfl (r_ldA ta92 (hp4.at (m.a00 hp4.lt1) 0 7 rfl rfl rfl) rfl k rfl rfl) fun a k => oE h fun x8 hx9 h => cE k m call183 rfl rfl rfl (c_impl_Fits fu (x1 : Item) (x2 : Typ)  hx9) fun w11 e a k m => pN 2 k rfl fun a k => nn (wp_ret (fS h k m rfl rfl)))))
theorem c_impl_Class_2 (fu : Nat) {w0 : World} (t1 : Typ) (x2 : Pallet) {b3 : Nat} (hp4 : bx w0 b3 [.int .i64 x2.fW, .int .i64 x2.fD, .int .i64 x2.fH, .int .i64 x2.fGram] 35) {r : Bool}
    (h : d_impl_Class_2 fu t1 x2 = some r) :
    Calls Tryz.prog 185 #[.agg (Flat.e (t1)).toArray, .pointer (some (⟨b3, 0, none⟩ : Addr))] w0 fun e w => e = .returned (.bool (r)) ∧ Ext [] w0 w := by
 refine enter (vs := [_, _]) func185 rfl ntmps185 rfl fun a k => ?_
 have m := St.start w0
 unfold d_impl_Class_2 at h
 refine wr (s_box (cs := [.int .i64 t1.fId, .int .i64 t1.fW, .int .i64 t1.fH, .int .i64 t1.fD, .int .i64 t1.fTare, .int .i64 t1.fGram, .int .i64 t1.fCost]) m k rfl rfl rfl rfl rfl rfl fun b5 w7 a k m e hb6 => pN 1 k rfl fun a k => nn (wr (sv k rfl (r_fa fa92_1 k rfl rfl) fun a k => sv k rfl (r_ldb t13 m 0 hb6 1 k rfl rfl rfl rfl rfl) fun a k => sv k rfl (r_fa fa35_0 k rfl rfl) fun a k => sv k rfl (r_ld1 t13 (r := []) (hp4.at (m.a00 hp4.lt1) 0 1 rfl rfl rfl) k rfl rfl) fun a k => pN 2 k rfl fun a k => bsplit (decide (t1.fW > x2.fW)) (fun hb8 => ?_) (fun hb8 => ?_))))
 · have h := bif_t hb8 h
   refine rB k 9 rfl hb8 fun k => pN 24 k rfl fun a k => ?_
   have k := k.keep [3] rfl
   refine nn (wp_ret (fS h k m rfl rfl))
 have h := bif_f hb8 h
 refine rB k 9 rfl hb8 fun k => sv k rfl (r_fa fa92_3 k rfl rfl) fun a k => sv k rfl (r_ldb t13 m 0 hb6 3 k rfl rfl rfl rfl rfl) fun a k => sv k rfl (r_fa fa35_1 k rfl rfl) fun a k => sv k rfl (r_ld1 t13 (r := []) (hp4.at (m.a00 hp4.lt1) 1 1 rfl rfl rfl) k rfl rfl) fun a k => pN 3 k rfl fun a k => bsplit (decide (t1.fD > x2.fD)) (fun hb9 => ?_) (fun hb9 => ?_)
 · have h := bif_t hb9 h
   refine rB k 16 rfl hb9 fun k => pN 17 k rfl fun a k => ?_
   have k := k.keep [3] rfl
   refine nn (wp_ret (fS h k m rfl rfl))
 have h := bif_f hb9 h
 refine rB k 16 rfl hb9 fun k => sv k rfl (r_fa fa92_2 k rfl rfl) fun a k => sv k rfl (r_ldb t13 m 0 hb6 2 k rfl rfl rfl rfl rfl) fun a k => sv k rfl (r_fa fa35_2 k rfl rfl) fun a k => sv k rfl (r_ld1 t13 (r := []) (hp4.at (m.a00 hp4.lt1) 2 1 rfl rfl rfl) k rfl rfl) fun a k => pN 3 k rfl fun a k => bsplit (decide (t1.fH > x2.fH)) (fun hb10 => ?_) (fun hb10 => ?_)
 · have h := bif_t hb10 h
   refine rB k 23 rfl hb10 fun k => pN 10 k rfl fun a k => ?_
   have k := k.keep [3] rfl
   refine nn (wp_ret (fS h k m rfl rfl))
 have h := bif_f hb10 h
 refine rB k 23 rfl hb10 fun k => sv k rfl (r_fa fa92_4 k rfl rfl) fun a k => sv k rfl (r_ldb t13 m 0 hb6 4 k rfl rfl rfl rfl rfl) fun a k => sv k rfl (r_fa fa92_5 k rfl rfl) fun a k => sv k rfl (r_ldb t13 m 0 hb6 5 k rfl rfl rfl rfl rfl) fun a k => pN 1 k rfl fun a k => sv k rfl (r_fa fa35_3 k rfl rfl) fun a k => sv k rfl (r_ld1 t13 (r := []) (hp4.at (m.a00 hp4.lt1) 3 1 rfl rfl rfl) k rfl rfl) fun a k => pN 3 k rfl fun a k => ?_
 have k := k.keep [3] rfl
 refine nn (wp_ret (fS h k m rfl rfl))
theorem c_impl_Class (fu : Nat) {w0 : World} (r1 : Request) {cs2 : List Value} {F3 : List Nat} (hp4 : rd w0 F3 cs2 r1) {r : Int}
    (h : d_impl_Class fu r1 = some r) :
    Calls Tryz.prog 142 #[.agg cs2.toArray] w0 fun e w => e = .returned (.int .i64 r) ∧ Ext [] w0 w := by
 refine enter (vs := [_]) func142 rfl ntmps142 rfl fun a k => ?_
 have m := St.start w0
 obtain ⟨v5, F6, v7, F8, v9, F10, rfl, rfl, hf11, hf12, hf13⟩ := hp4
 unfold d_impl_Class at h
 refine wr (s_box (cs := [.int .i64 r1.fWay, .int .i64 r1.fPallet.fW, .int .i64 r1.fPallet.fD, .int .i64 r1.fPallet.fH, .int .i64 r1.fPallet.fGram, .int .i64 r1.fClasses, v5, v7, .int .i64 r1.fMaster, v9]) m k rfl rfl rfl rfl rfl rfl fun b14 w16 a k m e hb15 => pN 1 k rfl fun a k => nn (wr (sv k rfl (r_ldB ta40 m 0 hb15 0 k rfl rfl rfl rfl rfl rfl) fun a k => oE h fun x17 hx18 h => cE k m call148 rfl rfl rfl (c_impl_MasterOf fu _ (show rd _ _ [.int .i64 r1.fWay, .int .i64 r1.fPallet.fW, .int .i64 r1.fPallet.fD, .int .i64 r1.fPallet.fH, .int .i64 r1.fPallet.fGram, .int .i64 r1.fClasses, v5, v7, .int .i64 r1.fMaster, v9] (r1 : Request) from ⟨_, _, _, _, _, _, rfl, rfl, (Enc.rd_agr hf11 (m.a00 (Enc.rd_lt hf11))), (Enc.rd_agr hf12 (m.a00 (Enc.rd_lt hf12))), (Enc.rd_agr hf13 (m.a00 (Enc.rd_lt hf13)))⟩) hx18) fun w20 e a k m => ?_)))
 refine pN 3 k rfl fun a k => s_alloc (cs := [.int .i64 0, .int .i64 0, .int .i64 0, .int .i64 0, .int .i64 0, .int .i64 0, .int .i64 0]) m k zeroValue92 rfl rfl rfl rfl rfl fun b21 w23 a k m e hb22 => s_stb (cs' := [.int .i64 x17.1.fId, .int .i64 x17.1.fW, .int .i64 x17.1.fH, .int .i64 x17.1.fD, .int .i64 x17.1.fTare, .int .i64 x17.1.fGram, .int .i64 x17.1.fCost]) sizeOf92 m 0 hb22 0 k rfl rfl rfl rfl rfl rfl rfl rfl rfl rfl rfl fun w24 a k e m hb25 => pN 1 k rfl fun a k => nn (wr (sv k rfl (r_fa fa40_1 k rfl rfl) fun a k => sv k rfl (r_ldB ta35 m 1 hb15 1 k rfl rfl rfl rfl rfl rfl) fun a k => s_alloc (cs := [.int .i64 0, .int .i64 0, .int .i64 0, .int .i64 0]) m k zeroValue35 rfl rfl rfl rfl rfl fun b26 w28 a k m e hb27 => ?_))
 refine s_stb (cs' := [.int .i64 r1.fPallet.fW, .int .i64 r1.fPallet.fD, .int .i64 r1.fPallet.fH, .int .i64 r1.fPallet.fGram]) sizeOf35 m 0 hb27 0 k rfl rfl rfl rfl rfl rfl rfl rfl rfl rfl rfl fun w29 a k e m hb30 => nn (wp_seq (wp_block (wr (sv k rfl (r_ldB ta40 m 2 hb15 0 k rfl rfl rfl rfl rfl rfl) fun a k => oE h fun x31 hx32 h => cE k m call179 rfl rfl rfl (c_impl_BoundsOk fu _ (show rd _ _ [.int .i64 r1.fWay, .int .i64 r1.fPallet.fW, .int .i64 r1.fPallet.fD, .int .i64 r1.fPallet.fH, .int .i64 r1.fPallet.fGram, .int .i64 r1.fClasses, v5, v7, .int .i64 r1.fMaster, v9] (r1 : Request) from ⟨_, _, _, _, _, _, rfl, rfl, (Enc.rd_agr hf11 (m.a00 (Enc.rd_lt hf11))), (Enc.rd_agr hf12 (m.a00 (Enc.rd_lt hf12))), (Enc.rd_agr hf13 (m.a00 (Enc.rd_lt hf13)))⟩) hx32) fun w34 e a k m => pN 2 k rfl fun a k => nn ?_))))
 refine cI h k rfl (fun hb35 h => ?_) fun hb35 h => ?_
 · refine wr (pN 1 k rfl fun a k => nn (wp_ret (rt_block (rt_then ?_))))
   refine fS h k m rfl rfl
 refine wr (sv k rfl (r_ldB ta40 m 2 hb15 0 k rfl rfl rfl rfl rfl rfl) fun a k => oE h fun x36 hx37 h => cE k m call180 rfl rfl rfl (c_impl_namesOk fu _ (show rd _ _ [.int .i64 r1.fWay, .int .i64 r1.fPallet.fW, .int .i64 r1.fPallet.fD, .int .i64 r1.fPallet.fH, .int .i64 r1.fPallet.fGram, .int .i64 r1.fClasses, v5, v7, .int .i64 r1.fMaster, v9] (r1 : Request) from ⟨_, _, _, _, _, _, rfl, rfl, (Enc.rd_agr hf11 (m.a00 (Enc.rd_lt hf11))), (Enc.rd_agr hf12 (m.a00 (Enc.rd_lt hf12))), (Enc.rd_agr hf13 (m.a00 (Enc.rd_lt hf13)))⟩) hx37) fun w39 e a k m => pN 2 k rfl fun a k => nn (cI h k rfl (fun hb40 h => ?_) fun hb40 h => ?_))
 · refine wr (pN 1 k rfl fun a k => nn (wp_ret (rt_block (rt_then ?_))))
   refine fS h k m rfl rfl
 refine wr (sv k rfl (r_fa fa40_3 k rfl rfl) fun a k => sv k rfl (r_ldb t136 m 2 hb15 6 k rfl rfl rfl rfl rfl) fun a k => sv k rfl (r_fa fa40_2 k rfl rfl) fun a k => sv k rfl (r_ldb t13 m 2 hb15 5 k rfl rfl rfl rfl rfl) fun a k => oE h fun x41 hx42 h => cE k m call181 rfl rfl rfl (c_impl_TableOk fu _ _ (Enc.rd_agr hf11 (m.a00 (Enc.rd_lt hf11))) hx42) fun w44 e a k m => pN 2 k rfl fun a k => ?_)
 have k := k.keep [1, 3, 5, 21] rfl
 refine nn (cI h k rfl (fun hb45 h => ?_) fun hb45 h => ?_)
 · refine wr (pN 1 k rfl fun a k => nn (wp_ret (rt_block (rt_then ?_))))
   refine fS h k m rfl rfl
 refine wr (sv k rfl (r_fa fa40_6 k rfl rfl) fun a k => sv k rfl (r_ldb t138 m 2 hb15 9 k rfl rfl rfl rfl rfl) fun a k => pN 1 k rfl fun a k => oE h fun x49 hx50 h => cE k m call151 rfl rfl rfl (c_slices_ContainsFunc_impl_Item_impl_Item fu _ _ (Enc.rd_agr hf13 (m.a00 (Enc.rd_lt hf13))) ⟨182, [.pointer (some (⟨b21, 0, none⟩ : Addr))], rfl, call182, fun w y46 v47 r e hv48 hx => by subst hv48; have m := m.step e; exact c_impl_Class_1 fu _ _ (hb25.agr (m.a 1 rfl) (by simp)) hx⟩ hx50) fun w52 e a k m => pN 1 k rfl fun a k => nn (cI h k rfl (fun hb53 h => ?_) fun hb53 h => ?_))
 · refine wr (pN 1 k rfl fun a k => nn (wp_ret (rt_block (rt_then ?_))))
   refine fS h k m rfl rfl
 refine wr (sv k rfl (r_fa fa40_4 k rfl rfl) fun a k => sv k rfl (r_ldb t137 m 2 hb15 7 k rfl rfl rfl rfl rfl) fun a k => pN 1 k rfl fun a k => oE h fun x57 hx58 h => cE k m call184 rfl rfl rfl (c_slices_ContainsFunc_impl_Type_impl_Type fu _ _ (Enc.rd_agr hf12 (m.a00 (Enc.rd_lt hf12))) ⟨185, [.pointer (some (⟨b26, 0, none⟩ : Addr))], rfl, call185, fun w y54 v55 r e hv56 hx => by subst hv56; have m := m.step e; exact c_impl_Class_2 fu _ _ (hb30.agr (m.a 0 rfl) (by simp)) hx⟩ hx58) fun w60 e a k m => pN 1 k rfl fun a k => nn (cI h k rfl (fun hb61 h => ?_) fun hb61 h => ?_))
 · refine wr (pN 1 k rfl fun a k => nn (wp_ret (rt_block (rt_then ?_))))
   refine fS h k m rfl rfl
 refine wp_skip (nm_block (nm_then ?_))
 refine wr (pN 1 k rfl fun a k => nn (wp_ret (fS h k m rfl rfl)))
theorem c_impl_sound (fu : Nat) {w0 : World} (r1 : Request) {cs2 : List Value} {F3 : List Nat} (hp4 : rd w0 F3 cs2 r1) {r : Bool}
    (h : d_impl_sound fu r1 = some r) :
    Calls Tryz.prog 76 #[.agg cs2.toArray] w0 fun e w => e = .returned (.bool (r)) ∧ Ext [] w0 w := by
 refine enter (vs := [_]) func76 rfl ntmps76 rfl fun a k => ?_
 have m := St.start w0
 obtain ⟨v5, F6, v7, F8, v9, F10, rfl, rfl, hf11, hf12, hf13⟩ := hp4
 unfold d_impl_sound at h
 refine wr (s_box (cs := [.int .i64 r1.fWay, .int .i64 r1.fPallet.fW, .int .i64 r1.fPallet.fD, .int .i64 r1.fPallet.fH, .int .i64 r1.fPallet.fGram, .int .i64 r1.fClasses, v5, v7, .int .i64 r1.fMaster, v9]) m k rfl rfl rfl rfl rfl rfl fun b14 w16 a k m e hb15 => pN 1 k rfl fun a k => nn (wr (sv k rfl (r_ldB ta40 m 0 hb15 0 k rfl rfl rfl rfl rfl rfl) fun a k => oE h fun x17 hx18 h => cE k m call142 rfl rfl rfl (c_impl_Class fu _ (show rd _ _ [.int .i64 r1.fWay, .int .i64 r1.fPallet.fW, .int .i64 r1.fPallet.fD, .int .i64 r1.fPallet.fH, .int .i64 r1.fPallet.fGram, .int .i64 r1.fClasses, v5, v7, .int .i64 r1.fMaster, v9] (r1 : Request) from ⟨_, _, _, _, _, _, rfl, rfl, (Enc.rd_agr hf11 (m.a00 (Enc.rd_lt hf11))), (Enc.rd_agr hf12 (m.a00 (Enc.rd_lt hf12))), (Enc.rd_agr hf13 (m.a00 (Enc.rd_lt hf13)))⟩) hx18) fun w20 e a k m => ?_)))
 refine pN 2 k rfl fun a k => nn (wp_ret (fS h k m rfl rfl))
theorem c_bits_Mul32 (fu : Nat) {w0 : World} (x1 : Int) (y2 : Int)  {r : Int × Int}
    (h : d_bits_Mul32 fu x1 y2 = some r) :
    Calls Tryz.prog 208 #[.int .u32 (x1), .int .u32 (y2)] w0 fun e w => e = .returned (.tuple #[.int .u32 (r.1), .int .u32 (r.2)]) ∧ Ext [] w0 w := by
 refine enter (vs := [_, _]) func208 rfl ntmps208 rfl fun a k => ?_
 have m := St.start w0
 unfold d_bits_Mul32 at h
 refine wr (pN 2 k rfl fun a k => nn (wr (pN 1 k rfl fun a k => sv k rfl (r_cv k underlying191 underlying194 rfl rfl) fun a k => pN 1 k rfl fun a k => sv k rfl (r_cv k underlying191 underlying194 rfl rfl) fun a k => pN 2 k rfl fun a k => nn (wr (pN 1 k rfl fun a k => sv k rfl (r_shr (y := 32) k rfl rfl rfl) fun a k => sv k rfl (r_cv k underlying194 underlying191 rfl rfl) fun a k => pN 1 k rfl fun a k => sv k rfl (r_cv k underlying194 underlying191 rfl rfl) fun a k => pN 2 k rfl fun a k => nn (wp_ret ?_))))))
 cases h
 exact finR2 k rfl (RV.tmp k rfl) (RV.tmp k rfl) ⟨rfl, m.ext⟩
theorem c_bits_Mul64 (fu : Nat) {w0 : World} (x1 : Int) (y2 : Int)  {r : Int × Int}
    (h : d_bits_Mul64 fu x1 y2 = some r) :
    Calls Tryz.prog 209 #[.int .u64 (x1), .int .u64 (y2)] w0 fun e w => e = .returned (.tuple #[.int .u64 (r.1), .int .u64 (r.2)]) ∧ Ext [] w0 w := by
 refine enter (vs := [_, _]) func209 rfl ntmps209 rfl fun a k => ?_
 have m := St.start w0
 unfold d_bits_Mul64 at h
 refine wr (pN 2 k rfl fun a k => nn (wr (pN 3 k rfl fun a k => nn (wr (pN 1 k rfl fun a k => sv k rfl (r_shr (y := 32) k rfl rfl rfl) fun a k => pN 1 k rfl fun a k => nn (wr (pN 3 k rfl fun a k => nn (wr (pN 1 k rfl fun a k => sv k rfl (r_shr (y := 32) k rfl rfl rfl) fun a k => pN 1 k rfl fun a k => nn (wr (pN 4 k rfl fun a k => nn (wr (pN 4 k rfl fun a k => sv k rfl (r_shr (y := 32) k rfl rfl rfl) fun a k => pN 2 k rfl fun a k => ?_)))))))))))))
 have k := k.keep [0, 1, 6, 7, 9, 11] rfl
 refine nn (wr (pN 3 k rfl fun a k => nn (wr (pN 1 k rfl fun a k => sv k rfl (r_shr (y := 32) k rfl rfl rfl) fun a k => pN 1 k rfl fun a k => nn (wr (pN 6 k rfl fun a k => nn (wr (pN 6 k rfl fun a k => sv k rfl (r_shr (y := 32) k rfl rfl rfl) fun a k => pN 2 k rfl fun a k => ?_))))))))
 have k := k.keep [0, 1, 4] rfl
 refine nn (wr (pN 4 k rfl fun a k => nn (wp_ret ?_)))
 cases h
 exact finR2 k rfl (RV.tmp k rfl) (RV.tmp k rfl) ⟨rfl, m.ext⟩
theorem c_bits_Mul (fu : Nat) {w0 : World} (x1 : Int) (y2 : Int)  {r : Int × Int}
    (h : d_bits_Mul fu x1 y2 = some r) :
    Calls Tryz.prog 186 #[.int .u64 (x1), .int .u64 (y2)] w0 fun e w => e = .returned (.tuple #[.int .u64 (r.1), .int .u64 (r.2)]) ∧ Ext [] w0 w := by
 refine enter (vs := [_, _]) func186 rfl ntmps186 rfl fun a k => ?_
 have m := St.start w0
 unfold d_bits_Mul at h
 refine wr (pN 2 k rfl fun a k => nn (wp_seq (wp_cond_false (k.ev rfl) (wp_skip (nm_then ?_)))))
 refine wr (pN 2 k rfl fun a k => oE h fun x3 hx4 h => cE k m call209 rfl rfl rfl (c_bits_Mul64 fu _ _  hx4) fun w6 e a k m => pN 5 k rfl fun a k => nn (wr (pN 4 k rfl fun a k => nn (wp_ret ?_))))
 cases h
 exact finR2 k rfl (RV.tmp k rfl) (RV.tmp k rfl) ⟨rfl, m.ext⟩
theorem c_slices_Repeat_int_int (fu : Nat) {w0 : World} (x1 : List Int) (count5 : Int) {v2 : Value} {F3 : List Nat} (hp4 : rd w0 F3 [v2] x1) {r : (List Int)}
    (h : d_slices_Repeat_int_int fu x1 count5 = some r) :
    Calls Tryz.prog 147 #[v2, .int .i64 count5] w0 fun e w => ∃ (v0 : Value) (G0 : List Nat), e = .returned (v0) ∧ Ext [] w0 w ∧ ow w G0 [v0] r ∧ (∀ b ∈ G0, w0.heap.size ≤ b) := by
 refine enter (vs := [_, _]) func147 rfl ntmps147 rfl fun a k => ?_
 have m := St.start w0
 unfold d_slices_Repeat_int_int at h
 refine wr (pN 1 k rfl fun a k => nn (c_cut (fun a w => K 48 [(0, v2), (1, .int .i64 count5)] a ∧ St [] w0 w [] ∧ d_slices_Repeat_int_int_J2 fu x1 count5 = some r) ?_ ?_))
 · rintro a w7 ⟨k, m, h⟩
   unfold d_slices_Repeat_int_int_J2 at h
   refine wr (pN 1 k rfl fun a k => sv k rfl (r_len (α := Int) hp4 k underlying29 rfl rfl) fun a k => sv k rfl (r_cv k underlying3 underlying181 rfl rfl) fun a k => pN 1 k rfl fun a k => sv k rfl (r_cv k underlying3 underlying181 rfl rfl) fun a k => oE h fun x8 hx9 h => cE k m call186 rfl rfl rfl (c_bits_Mul fu _ _  hx9) fun w11 e a k m => pN 5 k rfl fun a k => nn (c_cut (fun a w => K 48 [(0, v2), (6, .int .u64 (x8.2))] a ∧ St [] w0 w [] ∧ d_slices_Repeat_int_int_J1 fu x1 x8 = some r) ?_ ?_))
   · rintro a w14 ⟨k, m, h⟩
     unfold d_slices_Repeat_int_int_J1 at h
     refine wr (pN 1 k rfl fun a k => sv k rfl (r_cv k underlying181 underlying3 rfl rfl) fun a k => oE h fun x15 hx16 h => s_mk hx16 te29 rfl rfl m k rfl rfl rfl rfl rfl rfl fun g17 w18 a v20 k m e hf19 => pN 1 k rfl fun a k => nn (wr (pN 2 k rfl fun a k => s_cp (lo := 0) te29 m 0 hf19 (Part.self _) (Enc.rd_agr hp4 (m.a00 (Enc.rd_lt hp4))) k rfl rfl rfl rfl rfl rfl rfl fun w21 a k e m hf22 => pN 1 k rfl fun a k => nn (wp_seq (wp_block (c_loop (fun n a w => ∃ (newslice64 : List Int) (v65 : Value) (F66 : List Nat) (u67 : World) (n69 : Int), K 48 [(7, v65), (8, .int .i64 n69)] a ∧ St [] w0 w [(F66, u67)] ∧ ow u67 F66 [v65] newslice64 ∧ d_slices_Repeat_int_int_L1 fu  n newslice64 n69 = some r) ?_ ?_ fu _ _ ?_))))))
     · rintro a w ⟨_, _, _, _, _, _, _, _, h⟩
       exact nS h
     · rintro m70 a w63 ⟨newslice64, v65, F66, u67, n69, k, m, hf68, h⟩
       rw [d_slices_Repeat_int_int_L1_s] at h
       unfold d_slices_Repeat_int_int_L1_B at h
       refine wp_seq (wr (pN 2 k rfl fun a k => sv k rfl (r_len (α := Int) (Enc.ow_rd hf68) k underlying29 rfl rfl) fun a k => pN 1 k rfl fun a k => nn (cI h k rfl (fun hb71 h => ?_) fun hb71 h => ?_)))
       · refine wp_skip (nm_then ?_)
         refine wp_block (d_go (F66) mixo m rfl fun w72 hMd => ?_)
         have m := hMd
         have s := Ext.refl ((F66) : List Nat) w72
         refine dp k 0 rfl (by kernel_rfl) rfl s (fun _ _ _ => id) rfl fun a k => dp k 1 rfl (by kernel_rfl) rfl s (fun _ _ _ => id) rfl fun a k => dp k 2 rfl (by kernel_rfl) rfl s (fun _ _ _ => id) rfl fun a k => oE h fun x73 hx74 h => ?_
         obtain ⟨v75, hf76, hP77, hrn78⟩ := sl_from (Enc.ow_rd hf68) hx74 ts29
         refine dt k 3 rfl (by kernel_rfl) rfl s (fun _ _ _ => id) (fun w s => hrn78 k rfl rfl rfl _) fun a k => dp k 4 rfl (by kernel_rfl) rfl s (fun _ _ _ => id) rfl fun a k => dp k 5 rfl (by kernel_rfl) rfl s (fun _ _ _ => id) rfl fun a k => oE h fun x79 hx80 h => ?_
         obtain ⟨v81, hf82, hrn84⟩ := sl_to (Enc.ow_rd hf68) hx80 ts29
         refine dt k 6 rfl (by kernel_rfl) rfl s (fun _ _ _ => id) (fun w s => hrn84 k rfl rfl rfl _) fun a k => d_one 7 (by kernel_rfl) rfl (s_cp (lo := n69) te29 m 0 hf68 hP77 (Enc.rd_agr hf82 (m.a 0 rfl)) k rfl rfl rfl rfl rfl rfl rfl fun w85 a k e m hf86 => ?_)
         have s := s.trans e (fun y hy => Or.inl hy)
         refine wpList_nil ⟨s, ?_⟩
         refine dp k 8 rfl (by kernel_rfl) rfl s (fun _ _ _ => id) rfl fun a k => dp k 9 rfl (by kernel_rfl) rfl s (fun _ _ _ => id) rfl fun a k => d_done (by kernel_rfl) ((nm_block (nm_then ?_)))
         exact ⟨cpd newslice64 n69 x79, v65, F66, w85, w64 (n69 + (cpn newslice64 n69 x79)), k.keep [7, 8] rfl, m.sel [0] rfl (by decide), hf86, h⟩
       refine wp_exit (ex_then (ex_then (ex_same (nm_then ?_))))
       refine wr (pN 2 k rfl fun a k => nn (wp_ret ?_))
       cases h
       exact finR1 k rfl (RV.tmp k rfl) ⟨_, F66, rfl, m.ext, (Enc.ow_agr hf68 (m.a 0 rfl)), (m.fresh 0 rfl)⟩
     exact ⟨cpd x15 0 x1, v20, [g17], w21, cpn x15 0 x1, k.keep [7, 8] rfl, m.sel [0] rfl (by decide), hf22, h⟩
   refine wr (pN 3 k rfl fun a k => bsplit (decide (x8.1 > 0)) (fun hb87 => ?_) (fun hb87 => ?_))
   · have h := bif_t hb87 h
     refine rB k 23 rfl hb87 fun k => pN 3 k rfl fun a k => nn (wp_cond_true (k.ev rfl) ?_)
     exact nS h
   have h := bif_f hb87 h
   refine rB k 23 rfl hb87 fun k => pN 3 k rfl fun a k => nn (cI h k rfl (fun hb88 h => ?_) fun hb88 h => ?_)
   · exact nS h
   refine wp_skip (nm_then ?_)
   exact ⟨k.keep [0, 6] rfl, m.sel [] rfl (by decide), h⟩
 refine wr (pN 2 k rfl fun a k => nn (cI h k rfl (fun hb89 h => ?_) fun hb89 h => ?_))
 · exact nS h
 refine wp_skip (nm_then ?_)
 exact ⟨k.keep [0, 1] rfl, m.sel [] rfl (by decide), h⟩
theorem c_impl_Units (fu : Nat) {w0 : World} (r1 : Request) {cs2 : List Value} {F3 : List Nat} (hp4 : rd w0 F3 cs2 r1) {r : (List Int)}
    (h : d_impl_Units fu r1 = some r) :
    Calls Tryz.prog 84 #[.agg cs2.toArray] w0 fun e w => ∃ (v0 : Value) (G0 : List Nat), e = .returned (v0) ∧ Ext [] w0 w ∧ ow w G0 [v0] r ∧ (∀ b ∈ G0, w0.heap.size ≤ b) := by
 refine enter (vs := [_]) func84 rfl ntmps84 rfl fun a k => ?_
 have m := St.start w0
 obtain ⟨v5, F6, v7, F8, v9, F10, rfl, rfl, hf11, hf12, hf13⟩ := hp4
 unfold d_impl_Units at h
 refine wr (s_box (cs := [.int .i64 r1.fWay, .int .i64 r1.fPallet.fW, .int .i64 r1.fPallet.fD, .int .i64 r1.fPallet.fH, .int .i64 r1.fPallet.fGram, .int .i64 r1.fClasses, v5, v7, .int .i64 r1.fMaster, v9]) m k rfl rfl rfl rfl rfl rfl fun b14 w16 a k m e hb15 => pN 1 k rfl fun a k => nn (wp_seq (wr (sv k rfl (r_ldB ta40 m 0 hb15 0 k rfl rfl rfl rfl rfl rfl) fun a k => oE h fun x17 hx18 h => cE k m call76 rfl rfl rfl (c_impl_sound fu _ (show rd _ _ [.int .i64 r1.fWay, .int .i64 r1.fPallet.fW, .int .i64 r1.fPallet.fD, .int .i64 r1.fPallet.fH, .int .i64 r1.fPallet.fGram, .int .i64 r1.fClasses, v5, v7, .int .i64 r1.fMaster, v9] (r1 : Request) from ⟨_, _, _, _, _, _, rfl, rfl, (Enc.rd_agr hf11 (m.a00 (Enc.rd_lt hf11))), (Enc.rd_agr hf12 (m.a00 (Enc.rd_lt hf12))), (Enc.rd_agr hf13 (m.a00 (Enc.rd_lt hf13)))⟩) hx18) fun w20 e a k m => ?_))))
 refine pN 1 k rfl fun a k => nn (cI h k rfl (fun hb21 h => ?_) fun hb21 h => ?_)
 · refine wr (pN 1 k rfl fun a k => nn (wp_ret (rt_then ?_)))
   cases h
   exact finR1 k rfl (RV.tmp k rfl) ⟨_, [], rfl, m.ext, (ow_nil _), (by simp)⟩
 refine wp_skip (nm_then ?_)
 refine wr (s_bs (cs := []) (ps := []) te29 m k rfl rfl rfl rfl rfl rfl rfl (by decide) rfl (by exact (List.forall_mem_nil _)) fun g22 w23 e25 a k m e hb24 => ?_)
 have hf26 := ow_bx hb24 ([] : List Int) rfl rfl rfl
 refine pN 1 k rfl fun a k => nn (wp_seq (wr (sv k rfl (r_fa fa40_6 k rfl rfl) fun a k => sv k rfl (r_ldb t138 m 1 hb15 9 k rfl rfl rfl rfl rfl) fun a k => sv k rfl (r_len (α := Item) hf13 k underlying38 rfl rfl) fun a k => pN 1 k rfl fun a k => nn (wp_block (c_loop (fun n a w => ∃ (out92 : List Int) (v93 : Value) (F94 : List Nat) (u95 : World) (x97 : Int), K 27 [(3, v93), (11, v9), (12, .int .i64 ((r1.fItems.length : Int))), (13, .int .i64 x97)] a ∧ St [] w0 w [(F94, u95)] ∧ ow u95 F94 [v93] out92 ∧ d_impl_Units_L1 fu r1 n out92 x97 = some r) ?_ ?_ fu _ _ ?_)))))
 · rintro a w ⟨_, _, _, _, _, _, _, _, h⟩
   exact nS h
 · rintro m98 a w91 ⟨out92, v93, F94, u95, x97, k, m, hf96, h⟩
   rw [d_impl_Units_L1_s] at h
   unfold d_impl_Units_L1_B at h
   refine wr (pN 1 k rfl fun a k => nn (wp_seq (cI h k rfl (fun hb99 h => ?_) fun hb99 h => ?_)))
   · refine wp_skip (nm_then ?_)
     refine wp_seq (wp_block (wr (pN 1 k rfl fun a k => oE h fun x100 hx101 h => sv k rfl (r_ixa hf13 hx101 k ts38 rfl rfl rfl) fun a k => sv k rfl (r_lde hf13 (m.a00 (Enc.rd_lt hf13)) hx101 ta120 k rfl rfl) fun a k => s_alloc (cs := [.int .i64 0, .int .i64 0, .int .i64 0, .int .i64 0, .int .i64 0, .int .i64 0, .int .i64 0]) m k zeroValue120 rfl rfl rfl rfl rfl fun b102 w104 a k m e hb103 => pN 1 k rfl fun a k => s_stb (cs' := [.int .i64 x100.fId, .int .i64 x100.fW, .int .i64 x100.fH, .int .i64 x100.fD, .int .i64 x100.fGram, .int .i64 x100.fClass, .int .i64 x100.fCount]) sizeOf120 m 0 hb103 0 k rfl rfl rfl rfl rfl rfl rfl rfl rfl rfl rfl fun w105 a k e m hb106 => nn (wp_region_lit (pN 2 k rfl fun a k => ?_)))))
     refine s_bs (cs := [.int .i64 x97]) (ps := [(0, .tmp 19)]) te29 m k rfl rfl rfl rfl rfl rfl rfl (by decide) rfl (by exact (List.forall_mem_cons.2 ⟨rfl, (List.forall_mem_nil _)⟩)) fun g107 w108 e110 a k m e hb109 => ?_
     have hf111 := ow_bx hb109 ([x97] : List Int) rfl rfl rfl
     refine sv k rfl (r_fa fa120_6 k rfl rfl) fun a k => sv k rfl (r_ldb t13 m 1 hb106 6 k rfl rfl rfl rfl rfl) fun a k => oE h fun x112 hx113 h => s_call k call147 rfl rfl rfl rfl rfl (c_slices_Repeat_int_int fu _ _ (Enc.rd_agr (Enc.ow_rd hf111) (m.a 0 rfl)) hx113) fun e114 w115 hR => ?_
     obtain ⟨v120, F116, rfl, e, hf117, hfr118⟩ := hR
     refine ⟨_, rfl, fun a k => ?_⟩
     have m := m.new e F116 (fun b hb => ⟨hfr118 b hb, Enc.rd_lt (Enc.ow_rd hf117) b hb⟩) (Enc.ow_nd hf117)
     refine oE h fun x121 hx122 h => s_appF hx122 te29 rfl m 3 hf96 (News.rd (Enc.rd_agr (Enc.ow_rd hf117) (m.a 0 rfl))) rfl rfl k rfl rfl rfl rfl rfl rfl rfl fun v123 F124 w125 a k e m hf126 => pN 1 k rfl fun a k => wpList_nil (nm_block (nm_then ?_))
     refine wp_region_lit (pN 2 k rfl fun a k => nn ?_)
     exact ⟨x121, v123, F124, w125, w64 (x97 + 1), k.keep [3, 11, 12, 13] rfl, m.sel [3] rfl (by decide), hf126, h⟩
   refine wp_exit (ex_then (ex_then (ex_same (nm_then ?_))))
   refine wr (pN 2 k rfl fun a k => nn (wp_ret ?_))
   cases h
   exact finR1 k rfl (RV.tmp k rfl) ⟨_, F94, rfl, m.ext, (Enc.ow_agr hf96 (m.a 0 rfl)), (m.fresh 0 rfl)⟩
 exact ⟨([] : List Int), (.slice (some ⟨g22, 0, none⟩) 0 0), [g22], w23, 0, k.keep [3, 11, 12, 13] rfl, m.sel [0] rfl (by decide), hf26, h⟩
theorem c_impl_places (fu : Nat) {w0 : World} (n1 : Int)  {r : (List Int)}
    (h : d_impl_places fu n1 = some r) :
    Calls Tryz.prog 115 #[.int .i64 n1] w0 fun e w => ∃ (v0 : Value) (G0 : List Nat), e = .returned (v0) ∧ Ext [] w0 w ∧ ow w G0 [v0] r ∧ (∀ b ∈ G0, w0.heap.size ≤ b) := by
 refine enter (vs := [_]) func115 rfl ntmps115 rfl fun a k => ?_
 have m := St.start w0
 unfold d_impl_places at h
 refine wr (pN 1 k rfl fun a k => nn (wr (s_bs (cs := []) (ps := []) te29 m k rfl rfl rfl rfl rfl rfl rfl (by decide) rfl (by exact (List.forall_mem_nil _)) fun g2 w3 e5 a k m e hb4 => ?_)))
 have hf6 := ow_bx hb4 ([] : List Int) rfl rfl rfl
 refine pN 1 k rfl fun a k => nn (wp_seq (wr (pN 2 k rfl fun a k => nn (wp_block (c_loop (fun n a w => ∃ (out40 : List Int) (v41 : Value) (F42 : List Nat) (u43 : World) (x45 : Int), K 16 [(3, v41), (6, .int .i64 n1), (7, .int .i64 x45)] a ∧ St [] w0 w [(F42, u43)] ∧ ow u43 F42 [v41] out40 ∧ d_impl_places_L1 fu n1 n out40 x45 = some r) ?_ ?_ fu _ _ ?_)))))
 · rintro a w ⟨_, _, _, _, _, _, _, _, h⟩
   exact nS h
 · rintro m46 a w39 ⟨out40, v41, F42, u43, x45, k, m, hf44, h⟩
   rw [d_impl_places_L1_s] at h
   unfold d_impl_places_L1_B at h
   refine wr (pN 1 k rfl fun a k => nn (wp_seq (cI h k rfl (fun hb47 h => ?_) fun hb47 h => ?_)))
   · refine wp_skip (nm_then ?_)
     refine wp_seq (wp_block (wr (pN 2 k rfl fun a k => nn (wp_region_lit (pN 2 k rfl fun a k => s_bs (cs := [.int .i64 x45]) (ps := [(0, .tmp 11)]) te29 m k rfl rfl rfl rfl rfl rfl rfl (by decide) rfl (by exact (List.forall_mem_cons.2 ⟨rfl, (List.forall_mem_nil _)⟩)) fun g48 w49 e51 a k m e hb50 => ?_)))))
     have hf52 := ow_bx hb50 ([x45] : List Int) rfl rfl rfl
     refine oE h fun x53 hx54 h => s_appF hx54 te29 rfl m 1 hf44 (News.rd (Enc.rd_agr (Enc.ow_rd hf52) (m.a 0 rfl))) rfl rfl k rfl rfl rfl rfl rfl rfl rfl fun v55 F56 w57 a k e m hf58 => pN 1 k rfl fun a k => wpList_nil (nm_block (nm_then ?_))
     refine wp_region_lit (pN 2 k rfl fun a k => nn ?_)
     exact ⟨x53, v55, F56, w57, w64 (x45 + 1), k.keep [3, 6, 7] rfl, m.sel [1] rfl (by decide), hf58, h⟩
   refine wp_exit (ex_then (ex_then (ex_same (nm_then ?_))))
   refine wr (pN 2 k rfl fun a k => nn (wp_ret ?_))
   cases h
   exact finR1 k rfl (RV.tmp k rfl) ⟨_, F42, rfl, m.ext, (Enc.ow_agr hf44 (m.a 0 rfl)), (m.fresh 0 rfl)⟩
 exact ⟨([] : List Int), (.slice (some ⟨g2, 0, none⟩) 0 0), [g2], w3, 0, k.keep [3, 6, 7] rfl, m.sel [0] rfl (by decide), hf6, h⟩
theorem c_impl_itemsOf (fu : Nat) {w0 : World} (r1 : Request) (units5 : List Int) {cs2 : List Value} {F3 : List Nat} (hp4 : rd w0 F3 cs2 r1) {v6 : Value} {F7 : List Nat} (hp8 : rd w0 F7 [v6] units5) {r : (List Item)}
    (h : d_impl_itemsOf fu r1 units5 = some r) :
    Calls Tryz.prog 143 #[.agg cs2.toArray, v6] w0 fun e w => ∃ (v0 : Value) (G0 : List Nat), e = .returned (v0) ∧ Ext [] w0 w ∧ ow w G0 [v0] r ∧ (∀ b ∈ G0, w0.heap.size ≤ b) := by
 refine enter (vs := [_, _]) func143 rfl ntmps143 rfl fun a k => ?_
 have m := St.start w0
 obtain ⟨v9, F10, v11, F12, v13, F14, rfl, rfl, hf15, hf16, hf17⟩ := hp4
 unfold d_impl_itemsOf at h
 refine wr (s_box (cs := [.int .i64 r1.fWay, .int .i64 r1.fPallet.fW, .int .i64 r1.fPallet.fD, .int .i64 r1.fPallet.fH, .int .i64 r1.fPallet.fGram, .int .i64 r1.fClasses, v9, v11, .int .i64 r1.fMaster, v13]) m k rfl rfl rfl rfl rfl rfl fun b18 w20 a k m e hb19 => pN 1 k rfl fun a k => nn (wr (sv k rfl (r_ldB ta40 m 0 hb19 0 k rfl rfl rfl rfl rfl rfl) fun a k => oE h fun x21 hx22 h => ?_)))
 refine s_call k call84 rfl rfl rfl rfl rfl (c_impl_Units fu _ (show rd _ _ [.int .i64 r1.fWay, .int .i64 r1.fPallet.fW, .int .i64 r1.fPallet.fD, .int .i64 r1.fPallet.fH, .int .i64 r1.fPallet.fGram, .int .i64 r1.fClasses, v9, v11, .int .i64 r1.fMaster, v13] (r1 : Request) from ⟨_, _, _, _, _, _, rfl, rfl, (Enc.rd_agr hf15 (m.a00 (Enc.rd_lt hf15))), (Enc.rd_agr hf16 (m.a00 (Enc.rd_lt hf16))), (Enc.rd_agr hf17 (m.a00 (Enc.rd_lt hf17)))⟩) hx22) fun e23 w24 hR => ?_
 obtain ⟨v29, F25, rfl, e, hf26, hfr27⟩ := hR
 refine ⟨_, rfl, fun a k => ?_⟩
 have m := m.new e F25 (fun b hb => ⟨hfr27 b hb, Enc.rd_lt (Enc.ow_rd hf26) b hb⟩) (Enc.ow_nd hf26)
 refine pN 1 k rfl fun a k => nn (wr (s_bs (cs := []) (ps := []) te38 m k rfl rfl rfl rfl rfl rfl rfl (by decide) rfl (by exact (List.forall_mem_nil _)) fun g30 w31 e33 a k m e hb32 => ?_))
 have hf34 := ow_bx hb32 ([] : List Item) rfl rfl rfl
 refine pN 1 k rfl fun a k => nn (wp_seq (wr (pN 1 k rfl fun a k => sv k rfl (r_len (α := Int) hp8 k underlying29 rfl rfl) fun a k => pN 1 k rfl fun a k => nn (wp_block (c_loop (fun n a w => ∃ (out166 : List Item) (v167 : Value) (F168 : List Nat) (u169 : World) (x171 : Int), K 36 [(2, .pointer (some (⟨b18, 0, none⟩ : Addr))), (5, v29), (6, v167), (12, v6), (13, .int .i64 ((units5.length : Int))), (14, .int .i64 x171)] a ∧ St [] w0 w [([b18], w20), (F25, w24), (F168, u169)] ∧ ow u169 F168 [v167] out166 ∧ d_impl_itemsOf_L1 fu r1 units5 x21 n out166 x171 = some r) ?_ ?_ fu _ _ ?_)))))
 · rintro a w ⟨_, _, _, _, _, _, _, _, h⟩
   exact nS h
 · rintro m172 a w165 ⟨out166, v167, F168, u169, x171, k, m, hf170, h⟩
   rw [d_impl_itemsOf_L1_s] at h
   unfold d_impl_itemsOf_L1_B at h
   refine wr (pN 1 k rfl fun a k => nn (wp_seq (cI h k rfl (fun hb173 h => ?_) fun hb173 h => ?_)))
   · refine wp_skip (nm_then ?_)
     refine c_cut (fun a w => ∃ (out202 : List Item) (v203 : Value) (F204 : List Nat) (u205 : World), K 36 [(2, .pointer (some (⟨b18, 0, none⟩ : Addr))), (5, v29), (6, v203), (12, v6), (13, .int .i64 ((units5.length : Int))), (14, .int .i64 x171)] a ∧ St [] w0 w [([b18], w20), (F25, w24), (F204, u205)] ∧ ow u205 F204 [v203] out202 ∧ d_impl_itemsOf_J1 fu (d_impl_itemsOf_L1 fu r1 units5 x21 m172) x171 out202 = some r) ?_ ?_
     · rintro a w201 ⟨out202, v203, F204, u205, k, m, hf206, h⟩
       unfold d_impl_itemsOf_J1 at h
       refine wp_region_lit (pN 2 k rfl fun a k => nn ?_)
       exact ⟨out202, v203, F204, u205, w64 (x171 + 1), k.keep [2, 5, 6, 12, 13, 14] rfl, m.sel [0, 1, 2] rfl (by decide), hf206, h⟩
     refine wp_block (wr (oE h fun x207 hx208 h => sv k rfl (r_ixa hp8 hx208 k ts29 rfl rfl rfl) fun a k => sv k rfl (r_lde1 hp8 (m.a00 (Enc.rd_lt hp8)) hx208 0 t13 k rfl rfl rfl rfl) fun a k => pN 1 k rfl fun a k => nn (wr (pN 2 k rfl fun a k => sv k rfl (r_len (α := Int) (Enc.ow_rd hf26) k underlying29 rfl rfl) fun a k => pN 1 k rfl fun a k => oE h fun x209 hx210 h => cE k m call99 rfl rfl rfl (c_impl_in fu _ _ _  hx210) fun w212 e a k m => nn (cI h k rfl (fun hb213 h => ?_) fun hb213 h => ?_)))))
     · refine d_go (F168) mixo m rfl fun w214 hMd => ?_
       have m := hMd
       have s := Ext.refl ((F168) : List Nat) w214
       refine dp k 0 rfl (by kernel_rfl) rfl s (fun _ _ _ => id) rfl fun a k => dt k 1 rfl (by kernel_rfl) rfl s (fun _ _ _ => id) (fun w s => r_fa fa40_6 k rfl rfl) fun a k => dt k 2 rfl (by kernel_rfl) rfl s (fun _ _ _ => id) (fun w s => r_ld1 t138 (r := []) (hb19.at (hMd.az 0 2 rfl rfl rfl s) 9 1 rfl rfl rfl) k rfl rfl) fun a k => dp k 3 rfl (by kernel_rfl) rfl s (fun _ _ _ => id) rfl fun a k => dp k 4 rfl (by kernel_rfl) rfl s (fun _ _ _ => id) rfl fun a k => oE h fun x215 hx216 h => dt k 5 rfl (by kernel_rfl) rfl s (fun _ _ _ => id) (fun w s => r_ixa (Enc.ow_rd hf26) hx216 k ts29 rfl rfl rfl) fun a k => dt k 6 rfl (by kernel_rfl) rfl s (fun _ _ _ => id) (fun w s => r_lde1 (Enc.ow_rd hf26) (hMd.az 1 2 rfl rfl rfl s) hx216 0 t13 k rfl rfl rfl rfl) fun a k => oE h fun x217 hx218 h => ?_
       refine dt k 7 rfl (by kernel_rfl) rfl s (fun _ _ _ => id) (fun w s => r_ixa hf17 hx218 k ts38 rfl rfl rfl) fun a k => dt k 8 rfl (by kernel_rfl) rfl s (fun _ _ _ => id) (fun w s => r_lde hf17 (hMd.az0 2 rfl rfl (Enc.rd_lt hf17) s) hx218 ta120 k rfl rfl) fun a k => d_one 9 (by kernel_rfl) rfl (s_bsN (cs := [.int .i64 x217.fId, .int .i64 x217.fW, .int .i64 x217.fH, .int .i64 x217.fD, .int .i64 x217.fGram, .int .i64 x217.fClass, .int .i64 x217.fCount]) (ps := [(0, .tmp 31)]) te38 m k rfl rfl rfl rfl rfl rfl rfl (by decide) rfl (by exact (List.forall_mem_cons.2 ⟨rfl, (List.forall_mem_nil _)⟩)) fun g219 w220 e222 a k m e hb221 hgn223 => ?_)
       have hlo225 := lo1 (Nat.le_trans s.size hgn223)
       have hf224 := ow_bx hb221 ([x217] : List Item) rfl rfl rfl
       have s := s.trans e (by simp)
       refine wpList_nil ⟨s, ?_⟩
       refine d_one 10 (by kernel_rfl) rfl (oE h fun x226 hx227 h => s_appFN hx227 te38 rfl m 3 hf170 (News.rd (Enc.rd_agr (Enc.ow_rd hf224) (m.a 0 rfl))) rfl rfl k rfl rfl rfl rfl rfl rfl rfl fun v228 F229 w230 a k e m hf231 hap232 => ?_)
       have hlo233 : ∀ y ∈ F229, y ∈ (F168) ∨ _ ≤ y := fun y hy => (hap232 y hy).elim (fun hy => (fun y hy => Or.inl hy) y hy) (fun h => Or.inr (Nat.le_trans s.size h))
       have s := s.trans e (fun y hy => Or.inl hy)
       refine wpList_nil ⟨s, ?_⟩
       refine dp k 11 rfl (by kernel_rfl) rfl s (fun _ _ _ => id) rfl fun a k => d_done (by kernel_rfl) ((nm_block (nm_then ?_)))
       exact ⟨x226, v228, F229, w230, k.keep [2, 5, 6, 12, 13, 14] rfl, m.sel [1, 2, 3] rfl (by decide), hf231, h⟩
     refine wp_skip (nm_block (nm_then ?_))
     exact ⟨out166, v167, F168, u169, k.keep [2, 5, 6, 12, 13, 14] rfl, m.sel [0, 1, 2] rfl (by decide), hf170, h⟩
   refine wp_exit (ex_then (ex_then (ex_same (nm_then ?_))))
   refine wr (pN 2 k rfl fun a k => nn (wp_ret ?_))
   cases h
   exact finR1 k rfl (RV.tmp k rfl) ⟨_, F168, rfl, m.ext, (Enc.ow_agr hf170 (m.a 2 rfl)), (m.fresh 2 rfl)⟩
 exact ⟨([] : List Item), (.slice (some ⟨g30, 0, none⟩) 0 0), [g30], w31, 0, k.keep [2, 5, 6, 12, 13, 14] rfl, m.sel [2, 1, 0] rfl (by decide), hf34, h⟩
theorem c_impl_Volume (fu : Nat) {w0 : World} (wv1 : Int) (h2 : Int) (d3 : Int)  {r : Int}
    (h : d_impl_Volume fu wv1 h2 d3 = some r) :
    Calls Tryz.prog 78 #[.int .i64 wv1, .int .i64 h2, .int .i64 d3] w0 fun e w => e = .returned (.int .i64 r) ∧ Ext [] w0 w := by
 refine enter (vs := [_, _, _]) func78 rfl ntmps78 rfl fun a k => ?_
 have m := St.start w0
 unfold d_impl_Volume at h
 refine wr (pN 1 k rfl fun a k => nn (c_cut (fun a w => K 25 [(0, .int .i64 wv1), (1, .int .i64 h2), (2, .int .i64 d3)] a ∧ St [] w0 w [] ∧ d_impl_Volume_J1 fu wv1 h2 d3 = some r) ?_ ?_))
 · rintro a w19 ⟨k, m, h⟩
   unfold d_impl_Volume_J1 at h
   refine wr (pN 6 k rfl fun a k => nn (wp_ret (fS h k m rfl rfl)))
 refine wr (pN 1 k rfl fun a k => oE h fun x20 hx21 h => cE k m call99 rfl rfl rfl (c_impl_in fu _ _ _  hx21) fun w23 e a k m => pN 2 k rfl fun a k => bsplit (!x20) (fun hb24 => ?_) (fun hb24 => ?_))
 · have h := bif_t hb24 h
   refine rB k 10 rfl hb24 fun k => pN 9 k rfl fun a k => nn (wp_cond_true (k.ev rfl) (wr (pN 1 k rfl fun a k => nn (wp_ret (rt_then ?_)))))
   refine fS h k m rfl rfl
 have h := bif_f hb24 h
 refine rB k 10 rfl hb24 fun k => pN 1 k rfl fun a k => oE h fun x25 hx26 h => cE k m call99 rfl rfl rfl (c_impl_in fu _ _ _  hx26) fun w28 e a k m => pN 3 k rfl fun a k => bsplit (!x25) (fun hb29 => ?_) (fun hb29 => ?_)
 · have h := bif_t hb29 h
   refine rB k 15 rfl hb29 fun k => pN 4 k rfl fun a k => nn (wp_cond_true (k.ev rfl) (wr (pN 1 k rfl fun a k => nn (wp_ret (rt_then ?_)))))
   refine fS h k m rfl rfl
 have h := bif_f hb29 h
 refine rB k 15 rfl hb29 fun k => pN 1 k rfl fun a k => oE h fun x30 hx31 h => cE k m call99 rfl rfl rfl (c_impl_in fu _ _ _  hx31) fun w33 e a k m => pN 2 k rfl fun a k => nn (cI h k rfl (fun hb34 h => ?_) fun hb34 h => ?_)
 · refine wr (pN 1 k rfl fun a k => nn (wp_ret (rt_then ?_)))
   refine fS h k m rfl rfl
 refine wp_skip (nm_then ?_)
 exact ⟨k.keep [0, 1, 2] rfl, m.sel [] rfl (by decide), h⟩
theorem c_impl_VolumeOf (fu : Nat) {w0 : World} (r1 : Request) (units5 : List Int) {cs2 : List Value} {F3 : List Nat} (hp4 : rd w0 F3 cs2 r1) {v6 : Value} {F7 : List Nat} (hp8 : rd w0 F7 [v6] units5) {r : Int}
    (h : d_impl_VolumeOf fu r1 units5 = some r) :
    Calls Tryz.prog 77 #[.agg cs2.toArray, v6] w0 fun e w => e = .returned (.int .i64 r) ∧ Ext [] w0 w := by
 refine enter (vs := [_, _]) func77 rfl ntmps77 rfl fun a k => ?_
 have m := St.start w0
 obtain ⟨v9, F10, v11, F12, v13, F14, rfl, rfl, hf15, hf16, hf17⟩ := hp4
 unfold d_impl_VolumeOf at h
 refine wr (s_box (cs := [.int .i64 r1.fWay, .int .i64 r1.fPallet.fW, .int .i64 r1.fPallet.fD, .int .i64 r1.fPallet.fH, .int .i64 r1.fPallet.fGram, .int .i64 r1.fClasses, v9, v11, .int .i64 r1.fMaster, v13]) m k rfl rfl rfl rfl rfl rfl fun b18 w20 a k m e hb19 => pN 1 k rfl fun a k => nn (wr (pN 1 k rfl fun a k => nn (wp_seq (wr (sv k rfl (r_ldB ta40 m 0 hb19 0 k rfl rfl rfl rfl rfl rfl) fun a k => pN 1 k rfl fun a k => oE h fun x21 hx22 h => ?_))))))
 refine s_call k call143 rfl rfl rfl rfl rfl (c_impl_itemsOf fu _ _ (show rd _ _ [.int .i64 r1.fWay, .int .i64 r1.fPallet.fW, .int .i64 r1.fPallet.fD, .int .i64 r1.fPallet.fH, .int .i64 r1.fPallet.fGram, .int .i64 r1.fClasses, v9, v11, .int .i64 r1.fMaster, v13] (r1 : Request) from ⟨_, _, _, _, _, _, rfl, rfl, (Enc.rd_agr hf15 (m.a00 (Enc.rd_lt hf15))), (Enc.rd_agr hf16 (m.a00 (Enc.rd_lt hf16))), (Enc.rd_agr hf17 (m.a00 (Enc.rd_lt hf17)))⟩) (Enc.rd_agr hp8 (m.a00 (Enc.rd_lt hp8))) hx22) fun e23 w24 hR => ?_
 obtain ⟨v29, F25, rfl, e, hf26, hfr27⟩ := hR
 refine ⟨_, rfl, fun a k => ?_⟩
 have m := m.new e F25 (fun b hb => ⟨hfr27 b hb, Enc.rd_lt (Enc.ow_rd hf26) b hb⟩) (Enc.ow_nd hf26)
 refine sv k rfl (r_len (α := Item) (Enc.ow_rd hf26) k underlying38 rfl rfl) fun a k => pN 1 k rfl fun a k => nn (wp_block (c_loop (fun n a w => ∃ (n59 : Int) (x60 : Int), K 27 [(5, .int .i64 n59), (10, v29), (11, .int .i64 ((x21.length : Int))), (12, .int .i64 x60)] a ∧ St [] w0 w [(F25, w24)] ∧ d_impl_VolumeOf_L1 fu x21 n n59 x60 = some r) ?_ ?_ fu _ _ ?_))
 · rintro a w ⟨_, _, _, _, h⟩
   exact nS h
 · rintro m61 a w58 ⟨n59, x60, k, m, h⟩
   rw [d_impl_VolumeOf_L1_s] at h
   unfold d_impl_VolumeOf_L1_B at h
   refine wr (pN 1 k rfl fun a k => nn (wp_seq (cI h k rfl (fun hb62 h => ?_) fun hb62 h => ?_)))
   · refine wp_skip (nm_then ?_)
     refine wp_seq (wp_block (wr (oE h fun x63 hx64 h => sv k rfl (r_ixa (Enc.ow_rd hf26) hx64 k ts38 rfl rfl rfl) fun a k => sv k rfl (r_lde (Enc.ow_rd hf26) (m.a 0 rfl) hx64 ta120 k rfl rfl) fun a k => s_alloc (cs := [.int .i64 0, .int .i64 0, .int .i64 0, .int .i64 0, .int .i64 0, .int .i64 0, .int .i64 0]) m k zeroValue120 rfl rfl rfl rfl rfl fun b65 w67 a k m e hb66 => s_stb (cs' := [.int .i64 x63.fId, .int .i64 x63.fW, .int .i64 x63.fH, .int .i64 x63.fD, .int .i64 x63.fGram, .int .i64 x63.fClass, .int .i64 x63.fCount]) sizeOf120 m 0 hb66 0 k rfl rfl rfl rfl rfl rfl rfl rfl rfl rfl rfl fun w68 a k e m hb69 => nn (wp_region_lit (pN 1 k rfl fun a k => sv k rfl (r_fa fa120_1 k rfl rfl) fun a k => sv k rfl (r_ldb t13 m 0 hb69 1 k rfl rfl rfl rfl rfl) fun a k => sv k rfl (r_fa fa120_2 k rfl rfl) fun a k => ?_)))))
     refine sv k rfl (r_ldb t13 m 0 hb69 2 k rfl rfl rfl rfl rfl) fun a k => sv k rfl (r_fa fa120_3 k rfl rfl) fun a k => sv k rfl (r_ldb t13 m 0 hb69 3 k rfl rfl rfl rfl rfl) fun a k => oE h fun x70 hx71 h => cE k m call78 rfl rfl rfl (c_impl_Volume fu _ _ _  hx71) fun w73 e a k m => pN 2 k rfl fun a k => wpList_nil (nm_block (nm_then ?_))
     refine wp_region_lit (pN 2 k rfl fun a k => nn ?_)
     exact ⟨w64 (n59 + x70), w64 (x60 + 1), k.keep [5, 10, 11, 12] rfl, m.sel [1] rfl (by decide), h⟩
   refine wp_exit (ex_then (ex_then (ex_same (nm_then ?_))))
   refine wr (pN 2 k rfl fun a k => nn (wp_ret (fS h k m rfl rfl)))
 exact ⟨0, 0, k.keep [5, 10, 11, 12] rfl, m.sel [0] rfl (by decide), h⟩
theorem c_impl_GramOf (fu : Nat) {w0 : World} (r1 : Request) (units5 : List Int) {cs2 : List Value} {F3 : List Nat} (hp4 : rd w0 F3 cs2 r1) {v6 : Value} {F7 : List Nat} (hp8 : rd w0 F7 [v6] units5) {r : Int}
    (h : d_impl_GramOf fu r1 units5 = some r) :
    Calls Tryz.prog 94 #[.agg cs2.toArray, v6] w0 fun e w => e = .returned (.int .i64 r) ∧ Ext [] w0 w := by
 refine enter (vs := [_, _]) func94 rfl ntmps94 rfl fun a k => ?_
 have m := St.start w0
 obtain ⟨v9, F10, v11, F12, v13, F14, rfl, rfl, hf15, hf16, hf17⟩ := hp4
 unfold d_impl_GramOf at h
 refine wr (s_box (cs := [.int .i64 r1.fWay, .int .i64 r1.fPallet.fW, .int .i64 r1.fPallet.fD, .int .i64 r1.fPallet.fH, .int .i64 r1.fPallet.fGram, .int .i64 r1.fClasses, v9, v11, .int .i64 r1.fMaster, v13]) m k rfl rfl rfl rfl rfl rfl fun b18 w20 a k m e hb19 => pN 1 k rfl fun a k => nn (wr (pN 1 k rfl fun a k => nn (wp_seq (wr (sv k rfl (r_ldB ta40 m 0 hb19 0 k rfl rfl rfl rfl rfl rfl) fun a k => pN 1 k rfl fun a k => oE h fun x21 hx22 h => ?_))))))
 refine s_call k call143 rfl rfl rfl rfl rfl (c_impl_itemsOf fu _ _ (show rd _ _ [.int .i64 r1.fWay, .int .i64 r1.fPallet.fW, .int .i64 r1.fPallet.fD, .int .i64 r1.fPallet.fH, .int .i64 r1.fPallet.fGram, .int .i64 r1.fClasses, v9, v11, .int .i64 r1.fMaster, v13] (r1 : Request) from ⟨_, _, _, _, _, _, rfl, rfl, (Enc.rd_agr hf15 (m.a00 (Enc.rd_lt hf15))), (Enc.rd_agr hf16 (m.a00 (Enc.rd_lt hf16))), (Enc.rd_agr hf17 (m.a00 (Enc.rd_lt hf17)))⟩) (Enc.rd_agr hp8 (m.a00 (Enc.rd_lt hp8))) hx22) fun e23 w24 hR => ?_
 obtain ⟨v29, F25, rfl, e, hf26, hfr27⟩ := hR
 refine ⟨_, rfl, fun a k => ?_⟩
 have m := m.new e F25 (fun b hb => ⟨hfr27 b hb, Enc.rd_lt (Enc.ow_rd hf26) b hb⟩) (Enc.ow_nd hf26)
 refine sv k rfl (r_len (α := Item) (Enc.ow_rd hf26) k underlying38 rfl rfl) fun a k => pN 1 k rfl fun a k => nn (wp_block (c_loop (fun n a w => ∃ (n51 : Int) (x52 : Int), K 22 [(5, .int .i64 n51), (10, v29), (11, .int .i64 ((x21.length : Int))), (12, .int .i64 x52)] a ∧ St [] w0 w [(F25, w24)] ∧ d_impl_GramOf_L1 fu x21 n n51 x52 = some r) ?_ ?_ fu _ _ ?_))
 · rintro a w ⟨_, _, _, _, h⟩
   exact nS h
 · rintro m53 a w50 ⟨n51, x52, k, m, h⟩
   rw [d_impl_GramOf_L1_s] at h
   unfold d_impl_GramOf_L1_B at h
   refine wr (pN 1 k rfl fun a k => nn (wp_seq (cI h k rfl (fun hb54 h => ?_) fun hb54 h => ?_)))
   · refine wp_skip (nm_then ?_)
     refine wp_seq (wp_block (wr (oE h fun x55 hx56 h => sv k rfl (r_ixa (Enc.ow_rd hf26) hx56 k ts38 rfl rfl rfl) fun a k => sv k rfl (r_lde (Enc.ow_rd hf26) (m.a 0 rfl) hx56 ta120 k rfl rfl) fun a k => s_alloc (cs := [.int .i64 0, .int .i64 0, .int .i64 0, .int .i64 0, .int .i64 0, .int .i64 0, .int .i64 0]) m k zeroValue120 rfl rfl rfl rfl rfl fun b57 w59 a k m e hb58 => s_stb (cs' := [.int .i64 x55.fId, .int .i64 x55.fW, .int .i64 x55.fH, .int .i64 x55.fD, .int .i64 x55.fGram, .int .i64 x55.fClass, .int .i64 x55.fCount]) sizeOf120 m 0 hb58 0 k rfl rfl rfl rfl rfl rfl rfl rfl rfl rfl rfl fun w60 a k e m hb61 => nn (wp_region_lit (pN 1 k rfl fun a k => sv k rfl (r_fa fa120_4 k rfl rfl) fun a k => sv k rfl (r_ldb t13 m 0 hb61 4 k rfl rfl rfl rfl rfl) fun a k => pN 2 k rfl fun a k => wpList_nil (nm_block (nm_then ?_)))))))
     refine wp_region_lit (pN 2 k rfl fun a k => nn ?_)
     exact ⟨w64 (n51 + x55.fGram), w64 (x52 + 1), k.keep [5, 10, 11, 12] rfl, m.sel [1] rfl (by decide), h⟩
   refine wp_exit (ex_then (ex_then (ex_same (nm_then ?_))))
   refine wr (pN 2 k rfl fun a k => nn (wp_ret (fS h k m rfl rfl)))
 exact ⟨0, 0, k.keep [5, 10, 11, 12] rfl, m.sel [0] rfl (by decide), h⟩
theorem c_impl_within (fu : Nat) {w0 : World} (r1 : Request) (content5 : List Int) (t9 : Typ) {cs2 : List Value} {F3 : List Nat} (hp4 : rd w0 F3 cs2 r1) {v6 : Value} {F7 : List Nat} (hp8 : rd w0 F7 [v6] content5) {r : Bool}
    (h : d_impl_within fu r1 content5 t9 = some r) :
    Calls Tryz.prog 157 #[.agg cs2.toArray, v6, .agg (Flat.e (t9)).toArray] w0 fun e w => e = .returned (.bool (r)) ∧ Ext [] w0 w := by
 refine enter (vs := [_, _, _]) func157 rfl ntmps157 rfl fun a k => ?_
 have m := St.start w0
 obtain ⟨v10, F11, v12, F13, v14, F15, rfl, rfl, hf16, hf17, hf18⟩ := hp4
 unfold d_impl_within at h
 refine wr (s_box (cs := [.int .i64 r1.fWay, .int .i64 r1.fPallet.fW, .int .i64 r1.fPallet.fD, .int .i64 r1.fPallet.fH, .int .i64 r1.fPallet.fGram, .int .i64 r1.fClasses, v10, v12, .int .i64 r1.fMaster, v14]) m k rfl rfl rfl rfl rfl rfl fun b19 w21 a k m e hb20 => s_box (cs := [.int .i64 t9.fId, .int .i64 t9.fW, .int .i64 t9.fH, .int .i64 t9.fD, .int .i64 t9.fTare, .int .i64 t9.fGram, .int .i64 t9.fCost]) m k rfl rfl rfl rfl rfl rfl fun b22 w24 a k m e hb23 => pN 1 k rfl fun a k => nn (wp_seq (d_go [] mixo m rfl fun w25 hMd => ?_)))
 have m := hMd
 have s := Ext.refl ([] : List Nat) w25
 refine dt k 0 rfl (by kernel_rfl) rfl s (fun _ _ _ => id) (fun w s => r_ldA ta40 (hb20.at ((hMd.step s).a 1 rfl) 0 10 rfl rfl rfl) rfl k rfl rfl) fun a k => dp k 1 rfl (by kernel_rfl) rfl s (fun _ _ _ => id) rfl fun a k => dt k 3 rfl (by kernel_rfl) rfl s (fun _ _ _ => id) (fun w s => r_fa fa92_1 k rfl rfl) fun a k => dt k 4 rfl (by kernel_rfl) rfl s (fun _ _ _ => id) (fun w s => r_ld1 t13 (r := []) (hb23.at ((hMd.step s).a 0 rfl) 1 1 rfl rfl rfl) k rfl rfl) fun a k => dt k 5 rfl (by kernel_rfl) rfl s (fun _ _ _ => id) (fun w s => r_fa fa92_2 k rfl rfl) fun a k => dt k 6 rfl (by kernel_rfl) rfl s (fun _ _ _ => id) (fun w s => r_ld1 t13 (r := []) (hb23.at ((hMd.step s).a 0 rfl) 2 1 rfl rfl rfl) k rfl rfl) fun a k => dt k 7 rfl (by kernel_rfl) rfl s (fun _ _ _ => id) (fun w s => r_fa fa92_3 k rfl rfl) fun a k => ?_
 refine dt k 8 rfl (by kernel_rfl) rfl s (fun _ _ _ => id) (fun w s => r_ld1 t13 (r := []) (hb23.at ((hMd.step s).a 0 rfl) 3 1 rfl rfl rfl) k rfl rfl) fun a k => d_one 2 (by kernel_rfl) rfl (oE h fun x26 hx27 h => cE k m call77 rfl rfl rfl (c_impl_VolumeOf fu _ _ (show rd _ _ [.int .i64 r1.fWay, .int .i64 r1.fPallet.fW, .int .i64 r1.fPallet.fD, .int .i64 r1.fPallet.fH, .int .i64 r1.fPallet.fGram, .int .i64 r1.fClasses, v10, v12, .int .i64 r1.fMaster, v14] (r1 : Request) from ⟨_, _, _, _, _, _, rfl, rfl, (Enc.rd_agr hf16 (m.a00 (Enc.rd_lt hf16))), (Enc.rd_agr hf17 (m.a00 (Enc.rd_lt hf17))), (Enc.rd_agr hf18 (m.a00 (Enc.rd_lt hf18)))⟩) (Enc.rd_agr hp8 (m.a00 (Enc.rd_lt hp8))) hx27) fun w29 e a k m => ?_)
 have s := s.trans e (by simp)
 refine wpList_nil ⟨s, ?_⟩
 refine d_one 9 (by kernel_rfl) rfl (oE h fun x30 hx31 h => cE k m call78 rfl rfl rfl (c_impl_Volume fu _ _ _  hx31) fun w33 e a k m => ?_)
 have s := s.trans e (by simp)
 refine wpList_nil ⟨s, ?_⟩
 refine dp k 10 rfl (by kernel_rfl) rfl s (fun _ _ _ => id) rfl fun a k => dp k 11 rfl (by kernel_rfl) rfl s (fun _ _ _ => id) rfl fun a k => bsplit (decide (x26 ≤ x30)) (fun hb34 => ?_) (fun hb34 => ?_)
 · have h := bif_t hb34 h
   refine rB k 18 rfl hb34 fun k => dt k 12 rfl (by kernel_rfl) rfl s (fun _ _ _ => id) (fun w s => r_ldA ta40 (hb20.at ((hMd.step s).a 1 rfl) 0 10 rfl rfl rfl) rfl k rfl rfl) fun a k => dp k 13 rfl (by kernel_rfl) rfl s (fun _ _ _ => id) rfl fun a k => dt k 15 rfl (by kernel_rfl) rfl s (fun _ _ _ => id) (fun w s => r_fa fa92_5 k rfl rfl) fun a k => dt k 16 rfl (by kernel_rfl) rfl s (fun _ _ _ => id) (fun w s => r_ld1 t13 (r := []) (hb23.at ((hMd.step s).a 0 rfl) 5 1 rfl rfl rfl) k rfl rfl) fun a k => d_one 14 (by kernel_rfl) rfl (oE h fun x35 hx36 h => ?_)
   refine cE k m call94 rfl rfl rfl (c_impl_GramOf fu _ _ (show rd _ _ [.int .i64 r1.fWay, .int .i64 r1.fPallet.fW, .int .i64 r1.fPallet.fD, .int .i64 r1.fPallet.fH, .int .i64 r1.fPallet.fGram, .int .i64 r1.fClasses, v10, v12, .int .i64 r1.fMaster, v14] (r1 : Request) from ⟨_, _, _, _, _, _, rfl, rfl, (Enc.rd_agr hf16 (m.a00 (Enc.rd_lt hf16))), (Enc.rd_agr hf17 (m.a00 (Enc.rd_lt hf17))), (Enc.rd_agr hf18 (m.a00 (Enc.rd_lt hf18)))⟩) (Enc.rd_agr hp8 (m.a00 (Enc.rd_lt hp8))) hx36) fun w38 e a k m => ?_
   have s := s.trans e (by simp)
   refine wpList_nil ⟨s, ?_⟩
   refine dp k 17 rfl (by kernel_rfl) rfl s (fun _ _ _ => id) rfl fun a k => dp k 18 rfl (by kernel_rfl) rfl s (fun _ _ _ => id) rfl fun a k => dp k 19 rfl (by kernel_rfl) rfl s (fun _ _ _ => id) rfl fun a k => d_done (by kernel_rfl) ((nm_then ?_))
   refine wp_ret (fS h k m rfl rfl)
 have h := bif_f hb34 h
 refine rB k 18 rfl hb34 fun k => ds k 12 rfl (by kernel_rfl) rfl s (fun _ _ _ => id) fun a k => ds k 13 rfl (by kernel_rfl) rfl s (fun _ _ _ => id) fun a k => ds k 14 rfl (by kernel_rfl) rfl s (fun _ _ _ => id) fun a k => ds k 15 rfl (by kernel_rfl) rfl s (fun _ _ _ => id) fun a k => ds k 16 rfl (by kernel_rfl) rfl s (fun _ _ _ => id) fun a k => ds k 17 rfl (by kernel_rfl) rfl s (fun _ _ _ => id) fun a k => dp k 18 rfl (by kernel_rfl) rfl s (fun _ _ _ => id) rfl fun a k => dp k 19 rfl (by kernel_rfl) rfl s (fun _ _ _ => id) rfl fun a k => d_done (by kernel_rfl) ((nm_then ?_))
 refine wp_ret (fS h k m rfl rfl)
theorem c_slices_Clone_int_int (fu : Nat) {w0 : World} (sv1 : List Int) {v2 : Value} {F3 : List Nat} (hp4 : rd w0 F3 [v2] sv1) {r : (List Int)}
    (h : d_slices_Clone_int_int fu sv1 = some r) :
    Calls Tryz.prog 158 #[v2] w0 fun e w => ∃ (v0 : Value) (G0 : List Nat), e = .returned (v0) ∧ Ext [] w0 w ∧ ow w G0 [v0] r ∧ (∀ b ∈ G0, w0.heap.size ≤ b) := by
 refine enter (vs := [_]) func158 rfl ntmps158 rfl fun a k => ?_
 have m := St.start w0
 unfold d_slices_Clone_int_int at h
 refine wr (pN 1 k rfl fun a k => nn (wp_seq (wr (pN 1 k rfl fun a k => ?_))))
 obtain ⟨gb5, hg6, hr7⟩ := r_nilq hp4
 refine sv k rfl (hr7 k underlying29 rfl rfl rfl) fun a k => nn (c_cond (b := gb5) k rfl (fun hb8 => ?_) (fun hb8 => ?_))
 · have hx9 := hg6 hb8
   rw [hx9] at h
   have h : some (([] : List Int)) = some r := h
   refine wr (pN 1 k rfl fun a k => nn (wp_ret (rt_then ?_)))
   cases h
   exact finR1 k rfl (RV.tmp k rfl) ⟨_, [], rfl, m.ext, (ow_nil _), (by simp)⟩
 refine wp_skip (nm_then ?_)
 refine wr (s_bs (cs := []) (ps := []) te29 m k rfl rfl rfl rfl rfl rfl rfl (by decide) rfl (by exact (List.forall_mem_nil _)) fun g10 w11 e13 a k m e hb12 => ?_)
 have hf14 := ow_bx hb12 ([] : List Int) rfl rfl rfl
 refine pN 1 k rfl fun a k => oE h fun x15 hx16 h => s_appF hx16 te29 rfl m 0 hf14 (News.rd (Enc.rd_agr hp4 (m.a00 (Enc.rd_lt hp4)))) rfl rfl k rfl rfl rfl rfl rfl rfl rfl fun v17 F18 w19 a k e m hf20 => pN 1 k rfl fun a k => nn (wp_ret ?_)
 cases h
 exact finR1 k rfl (RV.tmp k rfl) ⟨_, F18, rfl, m.ext, (Enc.ow_agr hf20 (m.a 0 rfl)), (m.fresh 0 rfl)⟩

end Go.Proofs.YthjbcfefkdbgoaaGreat
