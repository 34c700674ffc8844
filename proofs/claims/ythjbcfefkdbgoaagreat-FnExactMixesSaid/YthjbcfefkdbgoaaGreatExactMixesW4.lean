/- FnExactMixes: the walks of functions that the law reaches, part 4. Printed by gen.py. -/
import Derived.Test.YthjbcfefkdbgoaaGreatExactMixesW3
set_option maxRecDepth 20000
set_option linter.unusedSimpArgs false
set_option linter.unusedVariables false
namespace Go.Proofs.YthjbcfefkdbgoaaGreat
open Go Go.RowKit
open Enc (rd ow)
open Arg (argv)
open Ret (retv)
open Go.Proofs.Tryz

theorem seq144 : SEq Tryz.prog 144 Pair := seqPair underlying144 Tryz.stoodInHeld144 Tryz.eqGuardType144 underlying3 rfl
theorem bt144 : BT Tryz.prog 144 [.int .i64 0, .int .i64 0] #[(0, 1), (1, 1)] := ⟨zeroValue144, _, underlying144, fun w => by simp [sizeOf3]⟩

def d_slices_Index_impl_Pair_impl_Pair_L1_B (fu : Nat)  (sv1 : List Pair) (v5 : Pair) (k1 : Int → Option (Int)) (x23 : Int) : Option (Int) :=
  bif (decide (x23 < ((sv1.length : Int)))) then obind (ix sv1 x23) fun x27 => bif (decide (v5 = x27)) then some (x23) else k1 (w64 (x23 + 1)) else some ((-1))
def d_slices_Index_impl_Pair_impl_Pair_L1 (fu : Nat)  (sv1 : List Pair) (v5 : Pair) : Nat → Int → Option (Int)
  | 0 => fun _ => none
  | n + 1 => d_slices_Index_impl_Pair_impl_Pair_L1_B fu sv1 v5 (d_slices_Index_impl_Pair_impl_Pair_L1 fu sv1 v5 n)
theorem d_slices_Index_impl_Pair_impl_Pair_L1_s (fu : Nat)  (sv1 : List Pair) (v5 : Pair) (n : Nat) : d_slices_Index_impl_Pair_impl_Pair_L1 fu sv1 v5 (n + 1) = d_slices_Index_impl_Pair_impl_Pair_L1_B fu sv1 v5 (d_slices_Index_impl_Pair_impl_Pair_L1 fu sv1 v5 n) := rfl

def d_slices_Index_impl_Pair_impl_Pair (fu : Nat) (sv1 : List Pair) (v5 : Pair) : Option (Int) :=
  d_slices_Index_impl_Pair_impl_Pair_L1 fu sv1 v5 fu 0

def d_slices_Contains_impl_Pair_impl_Pair (fu : Nat) (sv1 : List Pair) (v5 : Pair) : Option (Bool) :=
  obind (d_slices_Index_impl_Pair_impl_Pair fu sv1 v5) fun x9 => some (decide (x9 ≥ 0))

def d_impl_Beside (fu : Nat) (pairs1 : List Pair) (a5 : Int) (b6 : Int) : Option (Bool) :=
  obind (d_slices_Contains_impl_Pair_impl_Pair fu pairs1 ((⟨a5, b6⟩ : Pair))) fun x7 => some (x7)

def d_impl_TableOk_L1_B (fu : Nat) (k3 : Int → Option (Bool)) (pairs1 : List Pair) (classes5 : Int) (x99 : Int) (k4 : Int → Option (Bool)) (x131 : Int) : Option (Bool) :=
  bif (decide (x131 < classes5)) then obind (d_impl_Beside fu pairs1 x99 x131) fun x134 => obind (d_impl_Beside fu pairs1 x131 x99) fun x138 => bif (!(x134 == x138)) then some (false) else k4 (w64 (x131 + 1)) else k3 (w64 (x99 + 1))
def d_impl_TableOk_L1 (fu : Nat) (k3 : Int → Option (Bool)) (pairs1 : List Pair) (classes5 : Int) (x99 : Int) : Nat → Int → Option (Bool)
  | 0 => fun _ => none
  | n + 1 => d_impl_TableOk_L1_B fu k3 pairs1 classes5 x99 (d_impl_TableOk_L1 fu k3 pairs1 classes5 x99 n)
theorem d_impl_TableOk_L1_s (fu : Nat) (k3 : Int → Option (Bool)) (pairs1 : List Pair) (classes5 : Int) (x99 : Int) (n : Nat) : d_impl_TableOk_L1 fu k3 pairs1 classes5 x99 (n + 1) = d_impl_TableOk_L1_B fu k3 pairs1 classes5 x99 (d_impl_TableOk_L1 fu k3 pairs1 classes5 x99 n) := rfl

def d_impl_TableOk_L2_B (fu : Nat)  (pairs1 : List Pair) (classes5 : Int) (k3 : Int → Option (Bool)) (x99 : Int) : Option (Bool) :=
  bif (decide (x99 < classes5)) then obind (d_impl_Beside fu pairs1 x99 x99) fun x102 => bif (!x102) then some (false) else d_impl_TableOk_L1 fu k3 pairs1 classes5 x99 fu 0 else some (true)
def d_impl_TableOk_L2 (fu : Nat)  (pairs1 : List Pair) (classes5 : Int) : Nat → Int → Option (Bool)
  | 0 => fun _ => none
  | n + 1 => d_impl_TableOk_L2_B fu pairs1 classes5 (d_impl_TableOk_L2 fu pairs1 classes5 n)
theorem d_impl_TableOk_L2_s (fu : Nat)  (pairs1 : List Pair) (classes5 : Int) (n : Nat) : d_impl_TableOk_L2 fu pairs1 classes5 (n + 1) = d_impl_TableOk_L2_B fu pairs1 classes5 (d_impl_TableOk_L2 fu pairs1 classes5 n) := rfl

def d_impl_TableOk (fu : Nat) (pairs1 : List Pair) (classes5 : Int) : Option (Bool) :=
  obind (d_impl_in fu classes5 1 4) fun x6 => bif (!x6) then some (false) else d_impl_TableOk_L2 fu pairs1 classes5 fu 0

def d_slices_Sort_int_int (fu : Nat) (x1 : List Int) : Option (List Int) := sortI x1

def d_impl_Fits_J1 (fu : Nat) (x1 : Item) (t2 : Typ) (a39 : List Int) (b44 : List Int) : Option (Bool) :=
  obind (d_slices_Sort_int_int fu a39) fun x49 => obind (d_slices_Sort_int_int fu b44) fun x56 => obind (ix x49 0) fun x64 => obind (ix x56 0) fun x66 => bif (decide (x64 ≤ x66)) then obind (ix x49 1) fun x69 => obind (ix x56 1) fun x71 => bif (decide (x69 ≤ x71)) then obind (ix x49 2) fun x74 => obind (ix x56 2) fun x76 => bif (decide (x74 ≤ x76)) then some (decide (x1.fGram ≤ t2.fGram)) else some (false) else some (false) else some (false)

def d_impl_Fits (fu : Nat) (x1 : Item) (t2 : Typ) : Option (Bool) :=
  d_impl_Fits_J1 fu x1 t2 (([x1.fW, x1.fH, x1.fD] : List Int)) (([t2.fW, t2.fH, t2.fD] : List Int))

def d_impl_Class_1 (fu : Nat) (x1 : Item) (x2 : Typ) : Option (Bool) :=
  obind (d_impl_Fits fu x1 x2) fun x8 => some (!x8)

def d_impl_Class_2 (fu : Nat) (t1 : Typ) (x2 : Pallet) : Option (Bool) :=
  bif (decide (t1.fW > x2.fW)) then some (true) else bif (decide (t1.fD > x2.fD)) then some (true) else bif (decide (t1.fH > x2.fH)) then some (true) else some (decide ((w64 (t1.fTare + t1.fGram)) > x2.fGram))

def d_impl_Class (fu : Nat) (r1 : Request) : Option (Int) :=
  obind (d_impl_MasterOf fu r1) fun x17 => obind (d_impl_BoundsOk fu r1) fun x31 => bif (!x31) then some (2) else obind (d_impl_namesOk fu r1) fun x36 => bif (!x36) then some (3) else obind (d_impl_TableOk fu r1.fPairs r1.fClasses) fun x41 => bif (!x41) then some (4) else obind (d_slices_ContainsFunc_impl_Item_impl_Item fu r1.fItems (fun y46 => d_impl_Class_1 fu y46 x17.1)) fun x49 => bif x49 then some (5) else obind (d_slices_ContainsFunc_impl_Type_impl_Type fu r1.fTypes (fun y54 => d_impl_Class_2 fu y54 r1.fPallet)) fun x57 => bif x57 then some (6) else some (0)

def d_impl_sound (fu : Nat) (r1 : Request) : Option (Bool) :=
  obind (d_impl_Class fu r1) fun x17 => some (x17 == 0)

def d_slices_Clone_int_int (fu : Nat) (sv1 : List Int) : Option ((List Int)) :=
  obind (apnd 8 (([] : List Int)) sv1) fun x15 => some (x15)

def d_slices_Compact_int_int (fu : Nat) (x1 : List Int) : Option (List Int) := cmpI x1

def d_impl_kinds (fu : Nat) (list1 : List Int) : Option ((List Int)) :=
  obind (d_slices_Clone_int_int fu list1) fun x5 => obind (d_slices_Sort_int_int fu x5) fun x14 => obind (d_slices_Compact_int_int fu x14) fun x21 => some (x21)

def d_impl_Present_L1_B (fu : Nat)  (r1 : Request) (k1 : List Int → Int → Option ((List Int))) (out74 : List Int) (x79 : Int) : Option ((List Int)) :=
  bif (decide (x79 < ((r1.fItems.length : Int)))) then obind (ix r1.fItems x79) fun x82 => obind (apnd 8 out74 (([x82.fClass] : List Int))) fun x94 => k1 x94 (w64 (x79 + 1)) else obind (d_impl_kinds fu out74) fun x100 => some (x100)
def d_impl_Present_L1 (fu : Nat)  (r1 : Request) : Nat → List Int → Int → Option ((List Int))
  | 0 => fun _ _ => none
  | n + 1 => d_impl_Present_L1_B fu r1 (d_impl_Present_L1 fu r1 n)
theorem d_impl_Present_L1_s (fu : Nat)  (r1 : Request) (n : Nat) : d_impl_Present_L1 fu r1 (n + 1) = d_impl_Present_L1_B fu r1 (d_impl_Present_L1 fu r1 n) := rfl

def d_impl_Present (fu : Nat) (r1 : Request) : Option ((List Int)) :=
  obind (d_impl_sound fu r1) fun x17 => bif (!x17) then some (([] : List Int)) else d_impl_Present_L1 fu r1 fu (([] : List Int)) 0

def d_impl_mutual (fu : Nat) (pairs1 : List Pair) (a5 : Int) (b6 : Int) : Option (Bool) :=
  obind (d_impl_Beside fu pairs1 a5 b6) fun x7 => bif x7 then obind (d_impl_Beside fu pairs1 b6 a5) fun x12 => some (x12) else some (false)

def d_impl_Groups_1_1 (fu : Nat) (x1 : Int) (x2 : List Pair) (x8 : Int) : Option (Bool) :=
  obind (d_impl_mutual fu x2 x8 x1) fun x11 => some (!x11)

def d_slices_IndexFunc_int_int_L1_B (fu : Nat)  (sv1 : List Int) (f5 : Int → Option Bool) (k1 : Int → Option (Int)) (x32 : Int) : Option (Int) :=
  bif (decide (x32 < ((sv1.length : Int)))) then obind (ix sv1 x32) fun x35 => obind (f5 x35) fun x37 => bif x37 then some (x32) else k1 (w64 (x32 + 1)) else some ((-1))
def d_slices_IndexFunc_int_int_L1 (fu : Nat)  (sv1 : List Int) (f5 : Int → Option Bool) : Nat → Int → Option (Int)
  | 0 => fun _ => none
  | n + 1 => d_slices_IndexFunc_int_int_L1_B fu sv1 f5 (d_slices_IndexFunc_int_int_L1 fu sv1 f5 n)
theorem d_slices_IndexFunc_int_int_L1_s (fu : Nat)  (sv1 : List Int) (f5 : Int → Option Bool) (n : Nat) : d_slices_IndexFunc_int_int_L1 fu sv1 f5 (n + 1) = d_slices_IndexFunc_int_int_L1_B fu sv1 f5 (d_slices_IndexFunc_int_int_L1 fu sv1 f5 n) := rfl

def d_slices_IndexFunc_int_int (fu : Nat) (sv1 : List Int) (f5 : Int → Option Bool) : Option (Int) :=
  d_slices_IndexFunc_int_int_L1 fu sv1 f5 fu 0

def d_slices_ContainsFunc_int_int (fu : Nat) (sv1 : List Int) (f5 : Int → Option Bool) : Option (Bool) :=
  obind (d_slices_IndexFunc_int_int fu sv1 f5) fun x14 => some (decide (x14 ≥ 0))

def d_impl_Groups_1 (fu : Nat) (l1 : List Int) (x5 : List Pair) (x11 : Int) : Option (Bool) :=
  obind (d_slices_ContainsFunc_int_int fu l1 (fun y14 => d_impl_Groups_1_1 fu y14 x5 x11)) fun x17 => some (!x17)

def d_slices_IndexFunc_ints_int_L1_B (fu : Nat)  (sv1 : List (List Int)) (f5 : (List Int) → Option Bool) (k1 : Int → Option (Int)) (x46 : Int) : Option (Int) :=
  bif (decide (x46 < ((sv1.length : Int)))) then obind (ix sv1 x46) fun x49 => obind (f5 x49) fun x58 => bif x58 then some (x46) else k1 (w64 (x46 + 1)) else some ((-1))
def d_slices_IndexFunc_ints_int_L1 (fu : Nat)  (sv1 : List (List Int)) (f5 : (List Int) → Option Bool) : Nat → Int → Option (Int)
  | 0 => fun _ => none
  | n + 1 => d_slices_IndexFunc_ints_int_L1_B fu sv1 f5 (d_slices_IndexFunc_ints_int_L1 fu sv1 f5 n)
theorem d_slices_IndexFunc_ints_int_L1_s (fu : Nat)  (sv1 : List (List Int)) (f5 : (List Int) → Option Bool) (n : Nat) : d_slices_IndexFunc_ints_int_L1 fu sv1 f5 (n + 1) = d_slices_IndexFunc_ints_int_L1_B fu sv1 f5 (d_slices_IndexFunc_ints_int_L1 fu sv1 f5 n) := rfl

def d_slices_IndexFunc_ints_int (fu : Nat) (sv1 : List (List Int)) (f5 : (List Int) → Option Bool) : Option (Int) :=
  d_slices_IndexFunc_ints_int_L1 fu sv1 f5 fu 0

def d_impl_Groups_J1 (fu : Nat) (k3 : List (List Int) → Int → Option ((List (List Int)))) (x582 : Int) (out718 : List (List Int)) : Option ((List (List Int))) :=
  k3 out718 (w64 (x582 + 1))

def d_impl_Groups_L1_B (fu : Nat)  (pairs1 : List Pair) (x17 : (List Int)) (k3 : List (List Int) → Int → Option ((List (List Int)))) (out577 : List (List Int)) (x582 : Int) : Option ((List (List Int))) :=
  bif (decide (x582 < ((x17.length : Int)))) then obind (ix x17 x582) fun x723 => obind (d_impl_in fu x723 0 3) fun x730 => bif (!x730) then d_impl_Groups_J1 fu k3 x582 out577 else obind (d_slices_IndexFunc_ints_int fu out577 (fun y735 => d_impl_Groups_1 fu y735 pairs1 x723)) fun x738 => bif (decide (x738 < 0)) then obind (apnd 24 out577 [([x723] : List Int)]) fun x752 => d_impl_Groups_J1 fu k3 x582 x752 else obind (ix out577 x738) fun x762 => obind (apnd 8 x762 (([x723] : List Int))) fun x792 => obind (ix out577 x738) fun x806 => d_impl_Groups_J1 fu k3 x582 (setx out577 x738 x792) else some (out577)
def d_impl_Groups_L1 (fu : Nat)  (pairs1 : List Pair) (x17 : (List Int)) : Nat → List (List Int) → Int → Option ((List (List Int)))
  | 0 => fun _ _ => none
  | n + 1 => d_impl_Groups_L1_B fu pairs1 x17 (d_impl_Groups_L1 fu pairs1 x17 n)
theorem d_impl_Groups_L1_s (fu : Nat)  (pairs1 : List Pair) (x17 : (List Int)) (n : Nat) : d_impl_Groups_L1 fu pairs1 x17 (n + 1) = d_impl_Groups_L1_B fu pairs1 x17 (d_impl_Groups_L1 fu pairs1 x17 n) := rfl

def d_impl_Groups (fu : Nat) (pairs1 : List Pair) (present5 : List Int) : Option ((List (List Int))) :=
  obind (d_impl_kinds fu present5) fun x17 => d_impl_Groups_L1 fu pairs1 x17 fu (([] : List (List Int))) 0

def d_impl_GroupsOf (fu : Nat) (r1 : Request) : Option ((List (List Int))) :=
  obind (d_impl_sound fu r1) fun x17 => bif (!x17) then some (([] : List (List Int))) else obind (d_impl_Present fu r1) fun x23 => obind (d_impl_Groups fu r1.fPairs x23) fun x33 => some (x33)

def d_bits_Mul32 (fu : Nat) (x1 : Int) (y2 : Int) : Option (Int × Int) :=
  some (IntKind.wrap .u32 (Int.fdiv (IntKind.wrap .u64 ((IntKind.wrap .u64 x1) * (IntKind.wrap .u64 y2))) (2 ^ (min 32 (IntKind.bits .u64)))), IntKind.wrap .u32 (IntKind.wrap .u64 ((IntKind.wrap .u64 x1) * (IntKind.wrap .u64 y2))))

def d_bits_Mul64 (fu : Nat) (x1 : Int) (y2 : Int) : Option (Int × Int) :=
  some (IntKind.wrap .u64 ((IntKind.wrap .u64 ((IntKind.wrap .u64 ((Int.fdiv x1 (2 ^ (min 32 (IntKind.bits .u64)))) * (Int.fdiv y2 (2 ^ (min 32 (IntKind.bits .u64)))))) + (Int.fdiv (IntKind.wrap .u64 ((IntKind.wrap .u64 ((Int.fdiv x1 (2 ^ (min 32 (IntKind.bits .u64)))) * (IntKind.wrap .u64 (((BitVec.ofInt (IntKind.bits .u64) y2 &&& BitVec.ofInt (IntKind.bits .u64) 4294967295).toNat : Nat) : Int)))) + (Int.fdiv (IntKind.wrap .u64 ((IntKind.wrap .u64 (((BitVec.ofInt (IntKind.bits .u64) x1 &&& BitVec.ofInt (IntKind.bits .u64) 4294967295).toNat : Nat) : Int)) * (IntKind.wrap .u64 (((BitVec.ofInt (IntKind.bits .u64) y2 &&& BitVec.ofInt (IntKind.bits .u64) 4294967295).toNat : Nat) : Int)))) (2 ^ (min 32 (IntKind.bits .u64)))))) (2 ^ (min 32 (IntKind.bits .u64)))))) + (Int.fdiv (IntKind.wrap .u64 ((IntKind.wrap .u64 (((BitVec.ofInt (IntKind.bits .u64) (IntKind.wrap .u64 ((IntKind.wrap .u64 ((Int.fdiv x1 (2 ^ (min 32 (IntKind.bits .u64)))) * (IntKind.wrap .u64 (((BitVec.ofInt (IntKind.bits .u64) y2 &&& BitVec.ofInt (IntKind.bits .u64) 4294967295).toNat : Nat) : Int)))) + (Int.fdiv (IntKind.wrap .u64 ((IntKind.wrap .u64 (((BitVec.ofInt (IntKind.bits .u64) x1 &&& BitVec.ofInt (IntKind.bits .u64) 4294967295).toNat : Nat) : Int)) * (IntKind.wrap .u64 (((BitVec.ofInt (IntKind.bits .u64) y2 &&& BitVec.ofInt (IntKind.bits .u64) 4294967295).toNat : Nat) : Int)))) (2 ^ (min 32 (IntKind.bits .u64)))))) &&& BitVec.ofInt (IntKind.bits .u64) 4294967295).toNat : Nat) : Int)) + (IntKind.wrap .u64 ((IntKind.wrap .u64 (((BitVec.ofInt (IntKind.bits .u64) x1 &&& BitVec.ofInt (IntKind.bits .u64) 4294967295).toNat : Nat) : Int)) * (Int.fdiv y2 (2 ^ (min 32 (IntKind.bits .u64)))))))) (2 ^ (min 32 (IntKind.bits .u64))))), IntKind.wrap .u64 (x1 * y2))

def d_bits_Mul (fu : Nat) (x1 : Int) (y2 : Int) : Option (Int × Int) :=
  obind (d_bits_Mul64 fu x1 y2) fun x3 => some (x3.1, x3.2)

def d_slices_Repeat_int_int_L1_B (fu : Nat)   (k3 : List Int → Int → Option ((List Int))) (newslice64 : List Int) (n69 : Int) : Option ((List Int)) :=
  bif (decide (n69 < ((newslice64.length : Int)))) then obind (sls newslice64 n69 (newslice64.length : Int)) fun x73 => obind (sls newslice64 0 n69) fun x79 => k3 (cpd newslice64 n69 x79) (w64 (n69 + (cpn newslice64 n69 x79))) else some (newslice64)
def d_slices_Repeat_int_int_L1 (fu : Nat)   : Nat → List Int → Int → Option ((List Int))
  | 0 => fun _ _ => none
  | n + 1 => d_slices_Repeat_int_int_L1_B fu  (d_slices_Repeat_int_int_L1 fu  n)
theorem d_slices_Repeat_int_int_L1_s (fu : Nat)   (n : Nat) : d_slices_Repeat_int_int_L1 fu  (n + 1) = d_slices_Repeat_int_int_L1_B fu  (d_slices_Repeat_int_int_L1 fu  n) := rfl

def d_slices_Repeat_int_int_J1 (fu : Nat) (x1 : List Int) (x8 : Int × Int)  : Option ((List Int)) :=
  obind (mk 8 (0 : Int) (w64 x8.2)) fun x15 => d_slices_Repeat_int_int_L1 fu fu (cpd x15 0 x1) (cpn x15 0 x1)

def d_slices_Repeat_int_int_J2 (fu : Nat) (x1 : List Int) (count5 : Int)  : Option ((List Int)) :=
  obind (d_bits_Mul fu (IntKind.wrap .u64 ((x1.length : Int))) (IntKind.wrap .u64 count5)) fun x8 => bif (decide (x8.1 > 0)) then none else bif (decide (x8.2 > 9223372036854775807)) then none else d_slices_Repeat_int_int_J1 fu x1 x8

def d_slices_Repeat_int_int (fu : Nat) (x1 : List Int) (count5 : Int) : Option ((List Int)) :=
  bif (decide (count5 < 0)) then none else d_slices_Repeat_int_int_J2 fu x1 count5

def d_impl_Units_L1_B (fu : Nat)  (r1 : Request) (k1 : List Int → Int → Option ((List Int))) (out92 : List Int) (x97 : Int) : Option ((List Int)) :=
  bif (decide (x97 < ((r1.fItems.length : Int)))) then obind (ix r1.fItems x97) fun x100 => obind (d_slices_Repeat_int_int fu (([x97] : List Int)) x100.fCount) fun x112 => obind (apnd 8 out92 x112) fun x121 => k1 x121 (w64 (x97 + 1)) else some (out92)
def d_impl_Units_L1 (fu : Nat)  (r1 : Request) : Nat → List Int → Int → Option ((List Int))
  | 0 => fun _ _ => none
  | n + 1 => d_impl_Units_L1_B fu r1 (d_impl_Units_L1 fu r1 n)
theorem d_impl_Units_L1_s (fu : Nat)  (r1 : Request) (n : Nat) : d_impl_Units_L1 fu r1 (n + 1) = d_impl_Units_L1_B fu r1 (d_impl_Units_L1 fu r1 n) := rfl

def d_impl_Units (fu : Nat) (r1 : Request) : Option ((List Int)) :=
  obind (d_impl_sound fu r1) fun x17 => bif (!x17) then some (([] : List Int)) else d_impl_Units_L1 fu r1 fu (([] : List Int)) 0

def d_impl_itemsOf_J1 (fu : Nat) (k3 : List Item → Int → Option ((List Item))) (x171 : Int) (out202 : List Item) : Option ((List Item)) :=
  k3 out202 (w64 (x171 + 1))

def d_impl_itemsOf_L1_B (fu : Nat)  (r1 : Request) (units5 : List Int) (x21 : (List Int)) (k3 : List Item → Int → Option ((List Item))) (out166 : List Item) (x171 : Int) : Option ((List Item)) :=
  bif (decide (x171 < ((units5.length : Int)))) then obind (ix units5 x171) fun x207 => obind (d_impl_in fu x207 0 (w64 (((x21.length : Int)) - 1))) fun x209 => bif x209 then obind (ix x21 x207) fun x215 => obind (ix r1.fItems x215) fun x217 => obind (apnd 56 out166 (([x217] : List Item))) fun x226 => d_impl_itemsOf_J1 fu k3 x171 x226 else d_impl_itemsOf_J1 fu k3 x171 out166 else some (out166)
def d_impl_itemsOf_L1 (fu : Nat)  (r1 : Request) (units5 : List Int) (x21 : (List Int)) : Nat → List Item → Int → Option ((List Item))
  | 0 => fun _ _ => none
  | n + 1 => d_impl_itemsOf_L1_B fu r1 units5 x21 (d_impl_itemsOf_L1 fu r1 units5 x21 n)
theorem d_impl_itemsOf_L1_s (fu : Nat)  (r1 : Request) (units5 : List Int) (x21 : (List Int)) (n : Nat) : d_impl_itemsOf_L1 fu r1 units5 x21 (n + 1) = d_impl_itemsOf_L1_B fu r1 units5 x21 (d_impl_itemsOf_L1 fu r1 units5 x21 n) := rfl

def d_impl_itemsOf (fu : Nat) (r1 : Request) (units5 : List Int) : Option ((List Item)) :=
  obind (d_impl_Units fu r1) fun x21 => d_impl_itemsOf_L1 fu r1 units5 x21 fu (([] : List Item)) 0

def d_slices_Index_int_int_L1_B (fu : Nat)  (sv1 : List Int) (v5 : Int) (k1 : Int → Option (Int)) (x18 : Int) : Option (Int) :=
  bif (decide (x18 < ((sv1.length : Int)))) then obind (ix sv1 x18) fun x21 => bif (v5 == x21) then some (x18) else k1 (w64 (x18 + 1)) else some ((-1))
def d_slices_Index_int_int_L1 (fu : Nat)  (sv1 : List Int) (v5 : Int) : Nat → Int → Option (Int)
  | 0 => fun _ => none
  | n + 1 => d_slices_Index_int_int_L1_B fu sv1 v5 (d_slices_Index_int_int_L1 fu sv1 v5 n)
theorem d_slices_Index_int_int_L1_s (fu : Nat)  (sv1 : List Int) (v5 : Int) (n : Nat) : d_slices_Index_int_int_L1 fu sv1 v5 (n + 1) = d_slices_Index_int_int_L1_B fu sv1 v5 (d_slices_Index_int_int_L1 fu sv1 v5 n) := rfl

def d_slices_Index_int_int (fu : Nat) (sv1 : List Int) (v5 : Int) : Option (Int) :=
  d_slices_Index_int_int_L1 fu sv1 v5 fu 0

def d_slices_Contains_int_int (fu : Nat) (sv1 : List Int) (v5 : Int) : Option (Bool) :=
  obind (d_slices_Index_int_int fu sv1 v5) fun x6 => some (decide (x6 ≥ 0))

def d_impl_hasOf_1 (fu : Nat) (x1 : Item) (x2 : List Int) : Option (Bool) :=
  obind (d_slices_Contains_int_int fu x2 x1.fClass) fun x11 => some (x11)

theorem c_slices_Index_impl_Pair_impl_Pair (fu : Nat) {w0 : World} (sv1 : List Pair) (v5 : Pair) {v2 : Value} {F3 : List Nat} (hp4 : rd w0 F3 [v2] sv1) {r : Int}
    (h : d_slices_Index_impl_Pair_impl_Pair fu sv1 v5 = some r) :
    Calls Tryz.prog 226 #[v2, .agg (Flat.e (v5)).toArray] w0 fun e w => e = .returned (.int .i64 r) ∧ Ext [] w0 w := by
 refine enter (vs := [_, _]) func226 rfl ntmps226 rfl fun a k => ?_
 have m := St.start w0
 unfold d_slices_Index_impl_Pair_impl_Pair at h
 refine wr (s_box (cs := [.int .i64 v5.fA, .int .i64 v5.fB]) m k rfl rfl rfl rfl rfl rfl fun b6 w8 a k m e hb7 => pN 1 k rfl fun a k => nn (wp_seq (wr (pN 1 k rfl fun a k => sv k rfl (r_len (α := Pair) hp4 k underlying36 rfl rfl) fun a k => pN 1 k rfl fun a k => nn (wp_block (c_loop (fun n a w => ∃ (x23 : Int), K 19 [(0, v2), (3, .pointer (some (⟨b6, 0, none⟩ : Addr))), (7, .int .i64 ((sv1.length : Int))), (8, .int .i64 x23)] a ∧ St [] w0 w [([b6], w8)] ∧ d_slices_Index_impl_Pair_impl_Pair_L1 fu sv1 v5 n x23 = some r) ?_ ?_ fu _ _ ?_))))))
 · rintro a w ⟨_, _, _, h⟩
   exact nS h
 · rintro m24 a w22 ⟨x23, k, m, h⟩
   rw [d_slices_Index_impl_Pair_impl_Pair_L1_s] at h
   unfold d_slices_Index_impl_Pair_impl_Pair_L1_B at h
   refine wr (pN 1 k rfl fun a k => nn (wp_seq (cI h k rfl (fun hb25 h => ?_) fun hb25 h => ?_)))
   · refine wp_skip (nm_then ?_)
     refine wp_seq (wp_block (wr (pN 2 k rfl fun a k => nn (wp_seq (d_go [] mixo m rfl fun w26 hMd => ?_)))))
     have m := hMd
     have s := Ext.refl ([] : List Nat) w26
     refine dt k 0 rfl (by kernel_rfl) rfl s (fun _ _ _ => id) (fun w s => r_ldA ta144 (hb7.at ((hMd.step s).a 0 rfl) 0 2 rfl rfl rfl) rfl k rfl rfl) fun a k => dp k 1 rfl (by kernel_rfl) rfl s (fun _ _ _ => id) rfl fun a k => dp k 2 rfl (by kernel_rfl) rfl s (fun _ _ _ => id) rfl fun a k => oE h fun x27 hx28 h => dt k 3 rfl (by kernel_rfl) rfl s (fun _ _ _ => id) (fun w s => r_ixa hp4 hx28 k ts36 rfl rfl rfl) fun a k => dt k 4 rfl (by kernel_rfl) rfl s (fun _ _ _ => id) (fun w s => r_lde hp4 ((hMd.step s).a00 (Enc.rd_lt hp4)) hx28 ta144 k rfl rfl) fun a k => dt k 5 rfl (by kernel_rfl) rfl s (fun _ _ _ => id) (fun w s => r_eqs seq144 (x := v5) (y := x27) k rfl rfl rfl rfl rfl) fun a k => d_done (by kernel_rfl) ((nm_then ?_))
     refine cI h k rfl (fun hb29 h => ?_) fun hb29 h => ?_
     · refine wr (pN 2 k rfl fun a k => nn (wp_ret (rt_block (rt_then (rt_then (rt_block (rt_then ?_)))))))
       refine fS h k m rfl rfl
     refine wp_skip (nm_block (nm_then ?_))
     refine wp_region_lit (pN 2 k rfl fun a k => nn ?_)
     exact ⟨w64 (x23 + 1), k.keep [0, 3, 7, 8] rfl, m.sel [0] rfl (by decide), h⟩
   refine wp_exit (ex_then (ex_then (ex_same (nm_then ?_))))
   refine wr (pN 1 k rfl fun a k => nn (wp_ret (fS h k m rfl rfl)))
 exact ⟨0, k.keep [0, 3, 7, 8] rfl, m.sel [0] rfl (by decide), h⟩
theorem c_slices_Contains_impl_Pair_impl_Pair (fu : Nat) {w0 : World} (sv1 : List Pair) (v5 : Pair) {v2 : Value} {F3 : List Nat} (hp4 : rd w0 F3 [v2] sv1) {r : Bool}
    (h : d_slices_Contains_impl_Pair_impl_Pair fu sv1 v5 = some r) :
    Calls Tryz.prog 211 #[v2, .agg (Flat.e (v5)).toArray] w0 fun e w => e = .returned (.bool (r)) ∧ Ext [] w0 w := by
 refine enter (vs := [_, _]) func211 rfl ntmps211 rfl fun a k => ?_
 have m := St.start w0
 unfold d_slices_Contains_impl_Pair_impl_Pair at h
 refine wr (s_box (cs := [.int .i64 v5.fA, .int .i64 v5.fB]) m k rfl rfl rfl rfl rfl rfl fun b6 w8 a k m e hb7 => pN 1 k rfl fun a k => nn (wr (pN 1 k rfl fun a k => sv k rfl (r_ldB ta144 m 0 hb7 0 k rfl rfl rfl rfl rfl rfl) fun a k => oE h fun x9 hx10 h => cE k m call226 rfl rfl rfl (c_slices_Index_impl_Pair_impl_Pair fu _ (v5 : Pair) (Enc.rd_agr hp4 (m.a00 (Enc.rd_lt hp4))) hx10) fun w12 e a k m => pN 2 k rfl fun a k => nn (wp_ret (fS h k m rfl rfl)))))
theorem c_impl_Beside (fu : Nat) {w0 : World} (pairs1 : List Pair) (a5 : Int) (b6 : Int) {v2 : Value} {F3 : List Nat} (hp4 : rd w0 F3 [v2] pairs1) {r : Bool}
    (h : d_impl_Beside fu pairs1 a5 b6 = some r) :
    Calls Tryz.prog 192 #[v2, .int .i64 a5, .int .i64 b6] w0 fun e w => e = .returned (.bool (r)) ∧ Ext [] w0 w := by
 refine enter (vs := [_, _, _]) func192 rfl ntmps192 rfl fun a k => ?_
 have m := St.start w0
 unfold d_impl_Beside at h
 refine wr (pN 1 k rfl fun a k => nn (wr (pN 3 k rfl fun a k => sv k rfl (r_build bt144 k (ps := [(0, .tmp 8), (1, .tmp 9)]) rfl rfl rfl) fun a k => oE h fun x7 hx8 h => cE k m call211 rfl rfl rfl (c_slices_Contains_impl_Pair_impl_Pair fu _ (((⟨a5, b6⟩ : Pair)) : Pair) (Enc.rd_agr hp4 (m.a00 (Enc.rd_lt hp4))) hx8) fun w10 e a k m => pN 1 k rfl fun a k => nn (wp_ret (fS h k m rfl rfl)))))
theorem c_impl_TableOk (fu : Nat) {w0 : World} (pairs1 : List Pair) (classes5 : Int) {v2 : Value} {F3 : List Nat} (hp4 : rd w0 F3 [v2] pairs1) {r : Bool}
    (h : d_impl_TableOk fu pairs1 classes5 = some r) :
    Calls Tryz.prog 181 #[v2, .int .i64 classes5] w0 fun e w => e = .returned (.bool (r)) ∧ Ext [] w0 w := by
 refine enter (vs := [_, _]) func181 rfl ntmps181 rfl fun a k => ?_
 have m := St.start w0
 unfold d_impl_TableOk at h
 refine wr (pN 1 k rfl fun a k => nn (wp_seq (wr (pN 1 k rfl fun a k => oE h fun x6 hx7 h => cE k m call99 rfl rfl rfl (c_impl_in fu _ _ _  hx7) fun w9 e a k m => pN 1 k rfl fun a k => nn (cI h k rfl (fun hb10 h => ?_) fun hb10 h => ?_)))))
 · refine wr (pN 1 k rfl fun a k => nn (wp_ret (rt_then ?_)))
   refine fS h k m rfl rfl
 refine wp_skip (nm_then ?_)
 refine wp_seq (wr (pN 2 k rfl fun a k => nn (wp_block (c_loop (fun n a w => ∃ (x99 : Int), K 34 [(0, v2), (1, .int .i64 classes5), (10, .int .i64 classes5), (11, .int .i64 x99)] a ∧ St [] w0 w [] ∧ d_impl_TableOk_L2 fu pairs1 classes5 n x99 = some r) ?_ ?_ fu _ _ ?_))))
 · rintro a w ⟨_, _, _, h⟩
   exact nS h
 · rintro m100 a w98 ⟨x99, k, m, h⟩
   rw [d_impl_TableOk_L2_s] at h
   unfold d_impl_TableOk_L2_B at h
   refine wr (pN 1 k rfl fun a k => nn (wp_seq (cI h k rfl (fun hb101 h => ?_) fun hb101 h => ?_)))
   · refine wp_skip (nm_then ?_)
     refine wp_seq (wp_block (wr (pN 2 k rfl fun a k => nn (wp_seq (wr (pN 3 k rfl fun a k => oE h fun x102 hx103 h => cE k m call192 rfl rfl rfl (c_impl_Beside fu _ _ _ (Enc.rd_agr hp4 (m.a00 (Enc.rd_lt hp4))) hx103) fun w105 e a k m => pN 1 k rfl fun a k => nn (cI h k rfl (fun hb106 h => ?_) fun hb106 h => ?_)))))))
     · refine wr (pN 1 k rfl fun a k => nn (wp_ret (rt_then (rt_block (rt_then (rt_then (rt_block (rt_then ?_))))))))
       refine fS h k m rfl rfl
     refine wp_skip (nm_then ?_)
     refine wr (pN 2 k rfl fun a k => nn (wp_block (c_loop (fun n a w => ∃ (x131 : Int), K 34 [(0, v2), (1, .int .i64 classes5), (5, .int .i64 x99), (10, .int .i64 classes5), (11, .int .i64 x99), (19, .int .i64 classes5), (20, .int .i64 x131)] a ∧ St [] w0 w [] ∧ d_impl_TableOk_L1 fu (d_impl_TableOk_L2 fu pairs1 classes5 m100) pairs1 classes5 x99 n x131 = some r) ?_ ?_ fu _ _ ?_)))
     · rintro a w ⟨_, _, _, h⟩
       exact nS h
     · rintro m132 a w130 ⟨x131, k, m, h⟩
       rw [d_impl_TableOk_L1_s] at h
       unfold d_impl_TableOk_L1_B at h
       refine wr (pN 1 k rfl fun a k => nn (wp_seq (cI h k rfl (fun hb133 h => ?_) fun hb133 h => ?_)))
       · refine wp_skip (nm_then ?_)
         refine wp_seq (wp_block (wr (pN 2 k rfl fun a k => nn (wr (pN 3 k rfl fun a k => oE h fun x134 hx135 h => cE k m call192 rfl rfl rfl (c_impl_Beside fu _ _ _ (Enc.rd_agr hp4 (m.a00 (Enc.rd_lt hp4))) hx135) fun w137 e a k m => pN 3 k rfl fun a k => oE h fun x138 hx139 h => cE k m call192 rfl rfl rfl (c_impl_Beside fu _ _ _ (Enc.rd_agr hp4 (m.a00 (Enc.rd_lt hp4))) hx139) fun w141 e a k m => sv k rfl (r_neb k underlying4 rfl rfl rfl) fun a k => nn (cI h k rfl (fun hb142 h => ?_) fun hb142 h => ?_))))))
         · refine wr (pN 1 k rfl fun a k => nn (wp_ret (rt_block (rt_then (rt_then (rt_block (rt_block (rt_then (rt_then (rt_block (rt_then ?_)))))))))))
           refine fS h k m rfl rfl
         refine wp_skip (nm_block (nm_then ?_))
         refine wp_region_lit (pN 2 k rfl fun a k => nn ?_)
         exact ⟨w64 (x131 + 1), k.keep [0, 1, 5, 10, 11, 19, 20] rfl, m.sel [] rfl (by decide), h⟩
       refine wp_exit (ex_then (ex_then (ex_same (nm_block (nm_then ?_)))))
       refine wp_region_lit (pN 2 k rfl fun a k => nn ?_)
       exact ⟨w64 (x99 + 1), k.keep [0, 1, 10, 11] rfl, m.sel [] rfl (by decide), h⟩
     exact ⟨0, k.keep [0, 1, 5, 10, 11, 19, 20] rfl, m.sel [] rfl (by decide), h⟩
   refine wp_exit (ex_then (ex_then (ex_same (nm_then ?_))))
   refine wr (pN 1 k rfl fun a k => nn (wp_ret (fS h k m rfl rfl)))
 exact ⟨0, k.keep [0, 1, 10, 11] rfl, m.sel [] rfl (by decide), h⟩
theorem c_slices_Sort_int_int (fu : Nat) {w0 : World} (x1 : List Int) {v2 : Value} {F3 : List Nat} (hp4 : ow w0 F3 [v2] x1) {r : List Int}
    (h : d_slices_Sort_int_int fu x1 = some r) :
    Calls Tryz.prog 164 #[v2] w0 fun e w => ∃ H : List Nat, e = .returned (.tuple #[]) ∧ Ext F3 w0 w ∧ (∀ b ∈ H, b ∈ F3 ∨ w0.heap.size ≤ b) ∧ ow w H [v2] r :=
  (c_sortInt (fun blk off cap zs w => Tryz.slices_Sort_int blk off cap zs w) (fun p cap w => Tryz.slices_Sort_int_none p cap w) x1 hp4 h).mono fun e w ⟨h1, h2, h3⟩ => ⟨_, h1, h2, fun b hb => .inl hb, h3⟩

theorem c_impl_Fits (fu : Nat) {w0 : World} (x1 : Item) (t2 : Typ)  {r : Bool}
    (h : d_impl_Fits fu x1 t2 = some r) :
    Calls Tryz.prog 183 #[.agg (Flat.e (x1)).toArray, .agg (Flat.e (t2)).toArray] w0 fun e w => e = .returned (.bool (r)) ∧ Ext [] w0 w := by
 refine enter (vs := [_, _]) func183 rfl ntmps183 rfl fun a k => ?_
 have m := St.start w0
 unfold d_impl_Fits at h
 refine wr (s_box (cs := [.int .i64 x1.fId, .int .i64 x1.fW, .int .i64 x1.fH, .int .i64 x1.fD, .int .i64 x1.fGram, .int .i64 x1.fClass, .int .i64 x1.fCount]) m k rfl rfl rfl rfl rfl rfl fun b3 w5 a k m e hb4 => s_box (cs := [.int .i64 t2.fId, .int .i64 t2.fW, .int .i64 t2.fH, .int .i64 t2.fD, .int .i64 t2.fTare, .int .i64 t2.fGram, .int .i64 t2.fCost]) m k rfl rfl rfl rfl rfl rfl fun b6 w8 a k m e hb7 => pN 1 k rfl fun a k => nn ?_)
 refine c_cut (fun a w => ∃ (a39 : List Int) (v40 : Value) (F41 : List Nat) (u42 : World) (b44 : List Int) (v45 : Value) (F46 : List Nat) (u47 : World), K 57 [(2, .pointer (some (⟨b3, 0, none⟩ : Addr))), (3, .pointer (some (⟨b6, 0, none⟩ : Addr))), (5, v40), (6, v45)] a ∧ St [] w0 w [([b3], w5), ([b6], w8), (F41, u42), (F46, u47)] ∧ ow u42 F41 [v40] a39 ∧ ow u47 F46 [v45] b44 ∧ d_impl_Fits_J1 fu x1 t2 a39 b44 = some r) ?_ ?_
 · rintro a w38 ⟨a39, v40, F41, u42, b44, v45, F46, u47, k, m, hf43, hf48, h⟩
   unfold d_impl_Fits_J1 at h
   refine wr (pN 1 k rfl fun a k => oE h fun x49 hx50 h => s_call k call164 rfl rfl rfl rfl rfl (c_slices_Sort_int_int fu _ (Enc.ow_agr hf43 (m.a 2 rfl)) hx50) fun e51 w52 hR => ?_)
   obtain ⟨F55, rfl, e, hlo54, hf53⟩ := hR
   refine ⟨_, rfl, fun a k => ?_⟩
   have m := m.mut 2 rfl e _ (fun b hb => ⟨hlo54 b hb, Enc.rd_lt (Enc.ow_rd hf53) b hb⟩) (Enc.ow_nd hf53)
   refine nn (wr (pN 1 k rfl fun a k => oE h fun x56 hx57 h => s_call k call164 rfl rfl rfl rfl rfl (c_slices_Sort_int_int fu _ (Enc.ow_agr hf48 (m.a 3 rfl)) hx57) fun e58 w59 hR => ?_))
   obtain ⟨F62, rfl, e, hlo61, hf60⟩ := hR
   refine ⟨_, rfl, fun a k => ?_⟩
   have m := m.mut 3 rfl e _ (fun b hb => ⟨hlo61 b hb, Enc.rd_lt (Enc.ow_rd hf60) b hb⟩) (Enc.ow_nd hf60)
   refine nn (wp_seq (d_go [] mixo m rfl fun w63 hMd => ?_))
   have m := hMd
   have s := Ext.refl ([] : List Nat) w63
   refine dp k 0 rfl (by kernel_rfl) rfl s (fun _ _ _ => id) rfl fun a k => oE h fun x64 hx65 h => dt k 1 rfl (by kernel_rfl) rfl s (fun _ _ _ => id) (fun w s => r_ixa (Enc.ow_rd hf53) hx65 k ts29 rfl rfl rfl) fun a k => dt k 2 rfl (by kernel_rfl) rfl s (fun _ _ _ => id) (fun w s => r_lde1 (Enc.ow_rd hf53) ((hMd.step s).a 2 rfl) hx65 0 t13 k rfl rfl rfl rfl) fun a k => dp k 3 rfl (by kernel_rfl) rfl s (fun _ _ _ => id) rfl fun a k => oE h fun x66 hx67 h => dt k 4 rfl (by kernel_rfl) rfl s (fun _ _ _ => id) (fun w s => r_ixa (Enc.ow_rd hf60) hx67 k ts29 rfl rfl rfl) fun a k => dt k 5 rfl (by kernel_rfl) rfl s (fun _ _ _ => id) (fun w s => r_lde1 (Enc.ow_rd hf60) ((hMd.step s).a 3 rfl) hx67 0 t13 k rfl rfl rfl rfl) fun a k => dp k 6 rfl (by kernel_rfl) rfl s (fun _ _ _ => id) rfl fun a k => ?_
   refine dp k 7 rfl (by kernel_rfl) rfl s (fun _ _ _ => id) rfl fun a k => bsplit (decide (x64 ≤ x66)) (fun hb68 => ?_) (fun hb68 => ?_)
   · have h := bif_t hb68 h
     refine rB k 32 rfl hb68 fun k => dp k 8 rfl (by kernel_rfl) rfl s (fun _ _ _ => id) rfl fun a k => oE h fun x69 hx70 h => dt k 9 rfl (by kernel_rfl) rfl s (fun _ _ _ => id) (fun w s => r_ixa (Enc.ow_rd hf53) hx70 k ts29 rfl rfl rfl) fun a k => dt k 10 rfl (by kernel_rfl) rfl s (fun _ _ _ => id) (fun w s => r_lde1 (Enc.ow_rd hf53) ((hMd.step s).a 2 rfl) hx70 0 t13 k rfl rfl rfl rfl) fun a k => dp k 11 rfl (by kernel_rfl) rfl s (fun _ _ _ => id) rfl fun a k => oE h fun x71 hx72 h => dt k 12 rfl (by kernel_rfl) rfl s (fun _ _ _ => id) (fun w s => r_ixa (Enc.ow_rd hf60) hx72 k ts29 rfl rfl rfl) fun a k => dt k 13 rfl (by kernel_rfl) rfl s (fun _ _ _ => id) (fun w s => r_lde1 (Enc.ow_rd hf60) ((hMd.step s).a 3 rfl) hx72 0 t13 k rfl rfl rfl rfl) fun a k => dp k 14 rfl (by kernel_rfl) rfl s (fun _ _ _ => id) rfl fun a k => ?_
     refine dp k 15 rfl (by kernel_rfl) rfl s (fun _ _ _ => id) rfl fun a k => dp k 16 rfl (by kernel_rfl) rfl s (fun _ _ _ => id) rfl fun a k => bsplit (decide (x69 ≤ x71)) (fun hb73 => ?_) (fun hb73 => ?_)
     · have h := bif_t hb73 h
       refine rB k 41 rfl hb73 fun k => dp k 17 rfl (by kernel_rfl) rfl s (fun _ _ _ => id) rfl fun a k => oE h fun x74 hx75 h => dt k 18 rfl (by kernel_rfl) rfl s (fun _ _ _ => id) (fun w s => r_ixa (Enc.ow_rd hf53) hx75 k ts29 rfl rfl rfl) fun a k => dt k 19 rfl (by kernel_rfl) rfl s (fun _ _ _ => id) (fun w s => r_lde1 (Enc.ow_rd hf53) ((hMd.step s).a 2 rfl) hx75 0 t13 k rfl rfl rfl rfl) fun a k => dp k 20 rfl (by kernel_rfl) rfl s (fun _ _ _ => id) rfl fun a k => oE h fun x76 hx77 h => dt k 21 rfl (by kernel_rfl) rfl s (fun _ _ _ => id) (fun w s => r_ixa (Enc.ow_rd hf60) hx77 k ts29 rfl rfl rfl) fun a k => dt k 22 rfl (by kernel_rfl) rfl s (fun _ _ _ => id) (fun w s => r_lde1 (Enc.ow_rd hf60) ((hMd.step s).a 3 rfl) hx77 0 t13 k rfl rfl rfl rfl) fun a k => dp k 23 rfl (by kernel_rfl) rfl s (fun _ _ _ => id) rfl fun a k => ?_
       refine dp k 24 rfl (by kernel_rfl) rfl s (fun _ _ _ => id) rfl fun a k => dp k 25 rfl (by kernel_rfl) rfl s (fun _ _ _ => id) rfl fun a k => bsplit (decide (x74 ≤ x76)) (fun hb78 => ?_) (fun hb78 => ?_)
       · have h := bif_t hb78 h
         refine rB k 50 rfl hb78 fun k => dt k 26 rfl (by kernel_rfl) rfl s (fun _ _ _ => id) (fun w s => r_fa fa120_4 k rfl rfl) fun a k => dt k 27 rfl (by kernel_rfl) rfl s (fun _ _ _ => id) (fun w s => r_ld1 t13 (r := []) (hb4.at ((hMd.step s).a 0 rfl) 4 1 rfl rfl rfl) k rfl rfl) fun a k => dt k 28 rfl (by kernel_rfl) rfl s (fun _ _ _ => id) (fun w s => r_fa fa92_5 k rfl rfl) fun a k => dt k 29 rfl (by kernel_rfl) rfl s (fun _ _ _ => id) (fun w s => r_ld1 t13 (r := []) (hb7.at ((hMd.step s).a 1 rfl) 5 1 rfl rfl rfl) k rfl rfl) fun a k => dp k 30 rfl (by kernel_rfl) rfl s (fun _ _ _ => id) rfl fun a k => dp k 31 rfl (by kernel_rfl) rfl s (fun _ _ _ => id) rfl fun a k => dp k 32 rfl (by kernel_rfl) rfl s (fun _ _ _ => id) rfl fun a k => d_done (by kernel_rfl) ?_
         have k := k.keep [4] rfl
         refine (nm_then ?_)
         refine wp_ret (fS h k m rfl rfl)
       have h := bif_f hb78 h
       refine rB k 50 rfl hb78 fun k => ds k 26 rfl (by kernel_rfl) rfl s (fun _ _ _ => id) fun a k => ds k 27 rfl (by kernel_rfl) rfl s (fun _ _ _ => id) fun a k => ds k 28 rfl (by kernel_rfl) rfl s (fun _ _ _ => id) fun a k => ds k 29 rfl (by kernel_rfl) rfl s (fun _ _ _ => id) fun a k => ds k 30 rfl (by kernel_rfl) rfl s (fun _ _ _ => id) fun a k => dp k 31 rfl (by kernel_rfl) rfl s (fun _ _ _ => id) rfl fun a k => dp k 32 rfl (by kernel_rfl) rfl s (fun _ _ _ => id) rfl fun a k => d_done (by kernel_rfl) ?_
       have k := k.keep [4] rfl
       refine (nm_then ?_)
       refine wp_ret (fS h k m rfl rfl)
     have h := bif_f hb73 h
     refine rB k 41 rfl hb73 fun k => ds k 17 rfl (by kernel_rfl) rfl s (fun _ _ _ => id) fun a k => ds k 18 rfl (by kernel_rfl) rfl s (fun _ _ _ => id) fun a k => ds k 19 rfl (by kernel_rfl) rfl s (fun _ _ _ => id) fun a k => ds k 20 rfl (by kernel_rfl) rfl s (fun _ _ _ => id) fun a k => ds k 21 rfl (by kernel_rfl) rfl s (fun _ _ _ => id) fun a k => ds k 22 rfl (by kernel_rfl) rfl s (fun _ _ _ => id) fun a k => ds k 23 rfl (by kernel_rfl) rfl s (fun _ _ _ => id) fun a k => dp k 24 rfl (by kernel_rfl) rfl s (fun _ _ _ => id) rfl fun a k => dp k 25 rfl (by kernel_rfl) rfl s (fun _ _ _ => id) rfl fun a k => ds k 26 rfl (by kernel_rfl) rfl s (fun _ _ _ => id) fun a k => ds k 27 rfl (by kernel_rfl) rfl s (fun _ _ _ => id) fun a k => ds k 28 rfl (by kernel_rfl) rfl s (fun _ _ _ => id) fun a k => ?_
     refine ds k 29 rfl (by kernel_rfl) rfl s (fun _ _ _ => id) fun a k => ds k 30 rfl (by kernel_rfl) rfl s (fun _ _ _ => id) fun a k => dp k 31 rfl (by kernel_rfl) rfl s (fun _ _ _ => id) rfl fun a k => dp k 32 rfl (by kernel_rfl) rfl s (fun _ _ _ => id) rfl fun a k => d_done (by kernel_rfl) ?_
     have k := k.keep [4] rfl
     refine (nm_then ?_)
     refine wp_ret (fS h k m rfl rfl)
   have h := bif_f hb68 h
   refine rB k 32 rfl hb68 fun k => ds k 8 rfl (by kernel_rfl) rfl s (fun _ _ _ => id) fun a k => ds k 9 rfl (by kernel_rfl) rfl s (fun _ _ _ => id) fun a k => ds k 10 rfl (by kernel_rfl) rfl s (fun _ _ _ => id) fun a k => ds k 11 rfl (by kernel_rfl) rfl s (fun _ _ _ => id) fun a k => ds k 12 rfl (by kernel_rfl) rfl s (fun _ _ _ => id) fun a k => ds k 13 rfl (by kernel_rfl) rfl s (fun _ _ _ => id) fun a k => ds k 14 rfl (by kernel_rfl) rfl s (fun _ _ _ => id) fun a k => dp k 15 rfl (by kernel_rfl) rfl s (fun _ _ _ => id) rfl fun a k => dp k 16 rfl (by kernel_rfl) rfl s (fun _ _ _ => id) rfl fun a k => ds k 17 rfl (by kernel_rfl) rfl s (fun _ _ _ => id) fun a k => ds k 18 rfl (by kernel_rfl) rfl s (fun _ _ _ => id) fun a k => ds k 19 rfl (by kernel_rfl) rfl s (fun _ _ _ => id) fun a k => ?_
   refine ds k 20 rfl (by kernel_rfl) rfl s (fun _ _ _ => id) fun a k => ds k 21 rfl (by kernel_rfl) rfl s (fun _ _ _ => id) fun a k => ds k 22 rfl (by kernel_rfl) rfl s (fun _ _ _ => id) fun a k => ds k 23 rfl (by kernel_rfl) rfl s (fun _ _ _ => id) fun a k => dp k 24 rfl (by kernel_rfl) rfl s (fun _ _ _ => id) rfl fun a k => dp k 25 rfl (by kernel_rfl) rfl s (fun _ _ _ => id) rfl fun a k => ds k 26 rfl (by kernel_rfl) rfl s (fun _ _ _ => id) fun a k => ds k 27 rfl (by kernel_rfl) rfl s (fun _ _ _ => id) fun a k => ds k 28 rfl (by kernel_rfl) rfl s (fun _ _ _ => id) fun a k => ds k 29 rfl (by kernel_rfl) rfl s (fun _ _ _ => id) fun a k => ds k 30 rfl (by kernel_rfl) rfl s (fun _ _ _ => id) fun a k => dp k 31 rfl (by kernel_rfl) rfl s (fun _ _ _ => id) rfl fun a k => dp k 32 rfl (by kernel_rfl) rfl s (fun _ _ _ => id) rfl fun a k => ?_
   refine d_done (by kernel_rfl) ?_
   have k := k.keep [4] rfl
   refine (nm_then ?_)
   refine wp_ret (fS h k m rfl rfl)
 refine d_go [] mixo m rfl fun w79 hMd => ?_
 have m := hMd
 have s := Ext.refl ([] : List Nat) w79
 refine dt k 0 rfl (by kernel_rfl) rfl s (fun _ _ _ => id) (fun w s => r_fa fa120_1 k rfl rfl) fun a k => dt k 1 rfl (by kernel_rfl) rfl s (fun _ _ _ => id) (fun w s => r_ld1 t13 (r := []) (hb4.at ((hMd.step s).a 1 rfl) 1 1 rfl rfl rfl) k rfl rfl) fun a k => dt k 2 rfl (by kernel_rfl) rfl s (fun _ _ _ => id) (fun w s => r_fa fa120_2 k rfl rfl) fun a k => dt k 3 rfl (by kernel_rfl) rfl s (fun _ _ _ => id) (fun w s => r_ld1 t13 (r := []) (hb4.at ((hMd.step s).a 1 rfl) 2 1 rfl rfl rfl) k rfl rfl) fun a k => dt k 4 rfl (by kernel_rfl) rfl s (fun _ _ _ => id) (fun w s => r_fa fa120_3 k rfl rfl) fun a k => dt k 5 rfl (by kernel_rfl) rfl s (fun _ _ _ => id) (fun w s => r_ld1 t13 (r := []) (hb4.at ((hMd.step s).a 1 rfl) 3 1 rfl rfl rfl) k rfl rfl) fun a k => ?_
 refine dt k 7 rfl (by kernel_rfl) rfl s (fun _ _ _ => id) (fun w s => r_fa fa92_1 k rfl rfl) fun a k => dt k 8 rfl (by kernel_rfl) rfl s (fun _ _ _ => id) (fun w s => r_ld1 t13 (r := []) (hb7.at ((hMd.step s).a 0 rfl) 1 1 rfl rfl rfl) k rfl rfl) fun a k => dt k 9 rfl (by kernel_rfl) rfl s (fun _ _ _ => id) (fun w s => r_fa fa92_2 k rfl rfl) fun a k => dt k 10 rfl (by kernel_rfl) rfl s (fun _ _ _ => id) (fun w s => r_ld1 t13 (r := []) (hb7.at ((hMd.step s).a 0 rfl) 2 1 rfl rfl rfl) k rfl rfl) fun a k => dt k 11 rfl (by kernel_rfl) rfl s (fun _ _ _ => id) (fun w s => r_fa fa92_3 k rfl rfl) fun a k => dt k 12 rfl (by kernel_rfl) rfl s (fun _ _ _ => id) (fun w s => r_ld1 t13 (r := []) (hb7.at ((hMd.step s).a 0 rfl) 3 1 rfl rfl rfl) k rfl rfl) fun a k => d_two 6 13 (by kernel_rfl) rfl rfl ?_ ?_ 
 · refine s_bsN (cs := [.int .i64 x1.fW, .int .i64 x1.fH, .int .i64 x1.fD]) (ps := [(0, .tmp 8), (1, .tmp 10), (2, .tmp 12)]) te29 m k rfl rfl rfl rfl rfl rfl rfl (by decide) rfl (by exact (List.forall_mem_cons.2 ⟨rfl, (List.forall_mem_cons.2 ⟨rfl, (List.forall_mem_cons.2 ⟨rfl, (List.forall_mem_nil _)⟩)⟩)⟩)) fun g80 w81 e83 a k m e hb82 hgn84 => ?_
   have hlo86 := lo1 (Nat.le_trans s.size hgn84)
   have hf85 := ow_bx hb82 ([x1.fW, x1.fH, x1.fD] : List Int) rfl rfl rfl
   have s := s.trans e (by simp)
   refine wpList_nil ⟨s, ?_⟩
   refine dp k 14 rfl (by kernel_rfl) rfl s (fun _ _ _ => id) rfl fun a k => d_one 13 (by kernel_rfl) rfl (s_bsN (cs := [.int .i64 t2.fW, .int .i64 t2.fH, .int .i64 t2.fD]) (ps := [(0, .tmp 15), (1, .tmp 17), (2, .tmp 19)]) te29 m k rfl rfl rfl rfl rfl rfl rfl (by decide) rfl (by exact (List.forall_mem_cons.2 ⟨rfl, (List.forall_mem_cons.2 ⟨rfl, (List.forall_mem_cons.2 ⟨rfl, (List.forall_mem_nil _)⟩)⟩)⟩)) fun g87 w88 e90 a k m e hb89 hgn91 => ?_)
   have hlo93 := lo1 (Nat.le_trans s.size hgn91)
   have hf92 := ow_bx hb89 ([t2.fW, t2.fH, t2.fD] : List Int) rfl rfl rfl
   have s := s.trans e (by simp)
   refine wpList_nil ⟨s, ?_⟩
   refine dp k 15 rfl (by kernel_rfl) rfl s (fun _ _ _ => id) rfl fun a k => d_done (by kernel_rfl) ((nm_then ?_))
   exact ⟨([x1.fW, x1.fH, x1.fD] : List Int), (.slice (some ⟨g80, 0, none⟩) 3 3), [g80], w81, ([t2.fW, t2.fH, t2.fD] : List Int), (.slice (some ⟨g87, 0, none⟩) 3 3), [g87], w88, k.keep [2, 3, 5, 6] rfl, m.sel [3, 2, 1, 0] rfl (by decide), hf85, hf92, h⟩
 refine s_bsN (cs := [.int .i64 t2.fW, .int .i64 t2.fH, .int .i64 t2.fD]) (ps := [(0, .tmp 15), (1, .tmp 17), (2, .tmp 19)]) te29 m k rfl rfl rfl rfl rfl rfl rfl (by decide) rfl (by exact (List.forall_mem_cons.2 ⟨rfl, (List.forall_mem_cons.2 ⟨rfl, (List.forall_mem_cons.2 ⟨rfl, (List.forall_mem_nil _)⟩)⟩)⟩)) fun g94 w95 e97 a k m e hb96 hgn98 => ?_
 have hlo100 := lo1 (Nat.le_trans s.size hgn98)
 have hf99 := ow_bx hb96 ([t2.fW, t2.fH, t2.fD] : List Int) rfl rfl rfl
 have s := s.trans e (by simp)
 refine wpList_nil ⟨s, ?_⟩
 refine d_one 6 (by kernel_rfl) rfl (s_bsN (cs := [.int .i64 x1.fW, .int .i64 x1.fH, .int .i64 x1.fD]) (ps := [(0, .tmp 8), (1, .tmp 10), (2, .tmp 12)]) te29 m k rfl rfl rfl rfl rfl rfl rfl (by decide) rfl (by exact (List.forall_mem_cons.2 ⟨rfl, (List.forall_mem_cons.2 ⟨rfl, (List.forall_mem_cons.2 ⟨rfl, (List.forall_mem_nil _)⟩)⟩)⟩)) fun g101 w102 e104 a k m e hb103 hgn105 => ?_)
 have hlo107 := lo1 (Nat.le_trans s.size hgn105)
 have hf106 := ow_bx hb103 ([x1.fW, x1.fH, x1.fD] : List Int) rfl rfl rfl
 have s := s.trans e (by simp)
 refine wpList_nil ⟨s, ?_⟩
 refine dp k 14 rfl (by kernel_rfl) rfl s (fun _ _ _ => id) rfl fun a k => dp k 15 rfl (by kernel_rfl) rfl s (fun _ _ _ => id) rfl fun a k => d_done (by kernel_rfl) ((nm_then ?_))
 exact ⟨([x1.fW, x1.fH, x1.fD] : List Int), (.slice (some ⟨g101, 0, none⟩) 3 3), [g101], w102, ([t2.fW, t2.fH, t2.fD] : List Int), (.slice (some ⟨g94, 0, none⟩) 3 3), [g94], w95, k.keep [2, 3, 5, 6] rfl, m.sel [3, 2, 0, 1] rfl (by decide), hf106, hf99, h⟩
theorem c_impl_Class_1 (fu : Nat) {w0 : World} (x1 : Item) (x2 : Typ) {b3 : Nat} (hp4 : bx w0 b3 [.int .i64 x2.fId, .int .i64 x2.fW, .int .i64 x2.fH, .int .i64 x2.fD, .int .i64 x2.fTare, .int .i64 x2.fGram, .int .i64 x2.fCost] 92) {r : Bool}
    (h : d_impl_Class_1 fu x1 x2 = some r) :
    Calls Tryz.prog 182 #[.agg (Flat.e (x1)).toArray, .pointer (some (⟨b3, 0, none⟩ : Addr))] w0 fun e w => e = .returned (.bool (r)) ∧ Ext [] w0 w := by
 refine enter (vs := [_, _]) func182 rfl ntmps182 rfl fun a k => ?_
 have m := St.start w0
 unfold d_impl_Class_1 at h
 refine wr (s_box (cs := [.int .i64 x1.fId, .int .i64 x1.fW, .int .i64 x1.fH, .int .i64 x1.fD, .int .i64 x1.fGram, .int .i64 x1.fClass, .int .i64 x1.fCount]) m k rfl rfl rfl rfl rfl rfl fun b5 w7 a k m e hb6 => pN 1 k rfl fun a k => nn (wr (sv k rfl (r_ldB ta120 m 0 hb6 0 k rfl rfl rfl rfl rfl rfl) fun a k => sv k rfl (r_ldA ta92 (hp4.at (m.a00 hp4.lt1) 0 7 rfl rfl rfl) rfl k rfl rfl) fun a k => oE h fun x8 hx9 h => cE k m call183 rfl rfl rfl (c_impl_Fits fu (x1 : Item) (x2 : Typ)  hx9) fun w11 e a k m => pN 2 k rfl fun a k => nn (wp_ret (fS h k m rfl rfl)))))
theorem c_impl_Class_2 (fu : Nat) {w0 : World} (t1 : Typ) (x2 : Pallet) {b3 : Nat} (hp4 : bx w0 b3 [.int .i64 x2.fW, .int .i64 x2.fD, .int .i64 x2.fH, .int .i64 x2.fGram] 35) {r : Bool}
    (h : d_impl_Class_2 fu t1 x2 = some r) :
    Calls Tryz.prog 185 #[.agg (Flat.e (t1)).toArray, .pointer (some (⟨b3, 0, none⟩ : Addr))] w0 fun e w => e = .returned (.bool (r)) ∧ Ext [] w0 w := by
 refine enter (vs := [_, _]) func185 rfl ntmps185 rfl fun a k => ?_
 have m := St.start w0
 unfold d_impl_Class_2 at h
 refine wr (s_box (cs := [.int .i64 t1.fId, .int .i64 t1.fW, .int .i64 t1.fH, .int .i64 t1.fD, .int .i64 t1.fTare, .int .i64 t1.fGram, .int .i64 t1.fCost]) m k rfl rfl rfl rfl rfl rfl fun b5 w7 a k m e hb6 => pN 1 k rfl fun a k => nn (wr (sv k rfl (r_fa fa92_1 k rfl rfl) fun a k => sv k rfl (r_ldb t13 m 0 hb6 1 k rfl rfl rfl rfl rfl) fun a k => sv k rfl (r_fa fa35_0 k rfl rfl) fun a k => sv k rfl (r_ld1 t13 (r := []) (hp4.at (m.a00 hp4.lt1) 0 1 rfl rfl rfl) k rfl rfl) fun a k => pN 2 k rfl fun a k => bsplit (decide (t1.fW > x2.fW)) (fun hb8 => ?_) (fun hb8 => ?_))))
 · have h := bif_t hb8 h
   refine rB k 9 rfl hb8 fun k => pN 24 k rfl fun a k => ?_
   have k := k.keep [3] rfl
   refine nn (wp_ret (fS h k m rfl rfl))
 have h := bif_f hb8 h
 refine rB k 9 rfl hb8 fun k => sv k rfl (r_fa fa92_3 k rfl rfl) fun a k => sv k rfl (r_ldb t13 m 0 hb6 3 k rfl rfl rfl rfl rfl) fun a k => sv k rfl (r_fa fa35_1 k rfl rfl) fun a k => sv k rfl (r_ld1 t13 (r := []) (hp4.at (m.a00 hp4.lt1) 1 1 rfl rfl rfl) k rfl rfl) fun a k => pN 3 k rfl fun a k => bsplit (decide (t1.fD > x2.fD)) (fun hb9 => ?_) (fun hb9 => ?_)
 · have h := bif_t hb9 h
   refine rB k 16 rfl hb9 fun k => pN 17 k rfl fun a k => ?_
   have k := k.keep [3] rfl
   refine nn (wp_ret (fS h k m rfl rfl))
 have h := bif_f hb9 h
 refine rB k 16 rfl hb9 fun k => sv k rfl (r_fa fa92_2 k rfl rfl) fun a k => sv k rfl (r_ldb t13 m 0 hb6 2 k rfl rfl rfl rfl rfl) fun a k => sv k rfl (r_fa fa35_2 k rfl rfl) fun a k => sv k rfl (r_ld1 t13 (r := []) (hp4.at (m.a00 hp4.lt1) 2 1 rfl rfl rfl) k rfl rfl) fun a k => pN 3 k rfl fun a k => bsplit (decide (t1.fH > x2.fH)) (fun hb10 => ?_) (fun hb10 => ?_)
 · have h := bif_t hb10 h
   refine rB k 23 rfl hb10 fun k => pN 10 k rfl fun a k => ?_
   have k := k.keep [3] rfl
   refine nn (wp_ret (fS h k m rfl rfl))
 have h := bif_f hb10 h
 refine rB k 23 rfl hb10 fun k => sv k rfl (r_fa fa92_4 k rfl rfl) fun a k => sv k rfl (r_ldb t13 m 0 hb6 4 k rfl rfl rfl rfl rfl) fun a k => sv k rfl (r_fa fa92_5 k rfl rfl) fun a k => sv k rfl (r_ldb t13 m 0 hb6 5 k rfl rfl rfl rfl rfl) fun a k => pN 1 k rfl fun a k => sv k rfl (r_fa fa35_3 k rfl rfl) fun a k => sv k rfl (r_ld1 t13 (r := []) (hp4.at (m.a00 hp4.lt1) 3 1 rfl rfl rfl) k rfl rfl) fun a k => pN 3 k rfl fun a k => ?_
 have k := k.keep [3] rfl
 refine nn (wp_ret (fS h k m rfl rfl))
theorem c_impl_Class (fu : Nat) {w0 : World} (r1 : Request) {cs2 : List Value} {F3 : List Nat} (hp4 : rd w0 F3 cs2 r1) {r : Int}
    (h : d_impl_Class fu r1 = some r) :
    Calls Tryz.prog 142 #[.agg cs2.toArray] w0 fun e w => e = .returned (.int .i64 r) ∧ Ext [] w0 w := by
 refine enter (vs := [_]) func142 rfl ntmps142 rfl fun a k => ?_
 have m := St.start w0
 obtain ⟨v5, F6, v7, F8, v9, F10, rfl, rfl, hf11, hf12, hf13⟩ := hp4
 unfold d_impl_Class at h
 refine wr (s_box (cs := [.int .i64 r1.fWay, .int .i64 r1.fPallet.fW, .int .i64 r1.fPallet.fD, .int .i64 r1.fPallet.fH, .int .i64 r1.fPallet.fGram, .int .i64 r1.fClasses, v5, v7, .int .i64 r1.fMaster, v9]) m k rfl rfl rfl rfl rfl rfl fun b14 w16 a k m e hb15 => pN 1 k rfl fun a k => nn (wr (sv k rfl (r_ldB ta40 m 0 hb15 0 k rfl rfl rfl rfl rfl rfl) fun a k => oE h fun x17 hx18 h => cE k m call148 rfl rfl rfl (c_impl_MasterOf fu _ (show rd _ _ [.int .i64 r1.fWay, .int .i64 r1.fPallet.fW, .int .i64 r1.fPallet.fD, .int .i64 r1.fPallet.fH, .int .i64 r1.fPallet.fGram, .int .i64 r1.fClasses, v5, v7, .int .i64 r1.fMaster, v9] (r1 : Request) from ⟨_, _, _, _, _, _, rfl, rfl, (Enc.rd_agr hf11 (m.a00 (Enc.rd_lt hf11))), (Enc.rd_agr hf12 (m.a00 (Enc.rd_lt hf12))), (Enc.rd_agr hf13 (m.a00 (Enc.rd_lt hf13)))⟩) hx18) fun w20 e a k m => ?_)))
 refine pN 3 k rfl fun a k => s_alloc (cs := [.int .i64 0, .int .i64 0, .int .i64 0, .int .i64 0, .int .i64 0, .int .i64 0, .int .i64 0]) m k zeroValue92 rfl rfl rfl rfl rfl fun b21 w23 a k m e hb22 => s_stb (cs' := [.int .i64 x17.1.fId, .int .i64 x17.1.fW, .int .i64 x17.1.fH, .int .i64 x17.1.fD, .int .i64 x17.1.fTare, .int .i64 x17.1.fGram, .int .i64 x17.1.fCost]) sizeOf92 m 0 hb22 0 k rfl rfl rfl rfl rfl rfl rfl rfl rfl rfl rfl fun w24 a k e m hb25 => pN 1 k rfl fun a k => nn (wr (sv k rfl (r_fa fa40_1 k rfl rfl) fun a k => sv k rfl (r_ldB ta35 m 1 hb15 1 k rfl rfl rfl rfl rfl rfl) fun a k => s_alloc (cs := [.int .i64 0, .int .i64 0, .int .i64 0, .int .i64 0]) m k zeroValue35 rfl rfl rfl rfl rfl fun b26 w28 a k m e hb27 => ?_))
 refine s_stb (cs' := [.int .i64 r1.fPallet.fW, .int .i64 r1.fPallet.fD, .int .i64 r1.fPallet.fH, .int .i64 r1.fPallet.fGram]) sizeOf35 m 0 hb27 0 k rfl rfl rfl rfl rfl rfl rfl rfl rfl rfl rfl fun w29 a k e m hb30 => nn (wp_seq (wp_block (wr (sv k rfl (r_ldB ta40 m 2 hb15 0 k rfl rfl rfl rfl rfl rfl) fun a k => oE h fun x31 hx32 h => cE k m call179 rfl rfl rfl (c_impl_BoundsOk fu _ (show rd _ _ [.int .i64 r1.fWay, .int .i64 r1.fPallet.fW, .int .i64 r1.fPallet.fD, .int .i64 r1.fPallet.fH, .int .i64 r1.fPallet.fGram, .int .i64 r1.fClasses, v5, v7, .int .i64 r1.fMaster, v9] (r1 : Request) from ⟨_, _, _, _, _, _, rfl, rfl, (Enc.rd_agr hf11 (m.a00 (Enc.rd_lt hf11))), (Enc.rd_agr hf12 (m.a00 (Enc.rd_lt hf12))), (Enc.rd_agr hf13 (m.a00 (Enc.rd_lt hf13)))⟩) hx32) fun w34 e a k m => pN 2 k rfl fun a k => nn ?_))))
 refine cI h k rfl (fun hb35 h => ?_) fun hb35 h => ?_
 · refine wr (pN 1 k rfl fun a k => nn (wp_ret (rt_block (rt_then ?_))))
   refine fS h k m rfl rfl
 refine wr (sv k rfl (r_ldB ta40 m 2 hb15 0 k rfl rfl rfl rfl rfl rfl) fun a k => oE h fun x36 hx37 h => cE k m call180 rfl rfl rfl (c_impl_namesOk fu _ (show rd _ _ [.int .i64 r1.fWay, .int .i64 r1.fPallet.fW, .int .i64 r1.fPallet.fD, .int .i64 r1.fPallet.fH, .int .i64 r1.fPallet.fGram, .int .i64 r1.fClasses, v5, v7, .int .i64 r1.fMaster, v9] (r1 : Request) from ⟨_, _, _, _, _, _, rfl, rfl, (Enc.rd_agr hf11 (m.a00 (Enc.rd_lt hf11))), (Enc.rd_agr hf12 (m.a00 (Enc.rd_lt hf12))), (Enc.rd_agr hf13 (m.a00 (Enc.rd_lt hf13)))⟩) hx37) fun w39 e a k m => pN 2 k rfl fun a k => nn (cI h k rfl (fun hb40 h => ?_) fun hb40 h => ?_))
 · refine wr (pN 1 k rfl fun a k => nn (wp_ret (rt_block (rt_then ?_))))
   refine fS h k m rfl rfl
 refine wr (sv k rfl (r_fa fa40_3 k rfl rfl) fun a k => sv k rfl (r_ldb t136 m 2 hb15 6 k rfl rfl rfl rfl rfl) fun a k => sv k rfl (r_fa fa40_2 k rfl rfl) fun a k => sv k rfl (r_ldb t13 m 2 hb15 5 k rfl rfl rfl rfl rfl) fun a k => oE h fun x41 hx42 h => cE k m call181 rfl rfl rfl (c_impl_TableOk fu _ _ (Enc.rd_agr hf11 (m.a00 (Enc.rd_lt hf11))) hx42) fun w44 e a k m => pN 2 k rfl fun a k => ?_)
 have k := k.keep [1, 3, 5, 21] rfl
 refine nn (cI h k rfl (fun hb45 h => ?_) fun hb45 h => ?_)
 · refine wr (pN 1 k rfl fun a k => nn (wp_ret (rt_block (rt_then ?_))))
   refine fS h k m rfl rfl
 refine wr (sv k rfl (r_fa fa40_6 k rfl rfl) fun a k => sv k rfl (r_ldb t138 m 2 hb15 9 k rfl rfl rfl rfl rfl) fun a k => pN 1 k rfl fun a k => oE h fun x49 hx50 h => cE k m call151 rfl rfl rfl (c_slices_ContainsFunc_impl_Item_impl_Item fu _ _ (Enc.rd_agr hf13 (m.a00 (Enc.rd_lt hf13))) ⟨182, [.pointer (some (⟨b21, 0, none⟩ : Addr))], rfl, call182, fun w y46 v47 r e hv48 hx => by subst hv48; have m := m.step e; exact c_impl_Class_1 fu _ _ (hb25.agr (m.a 1 rfl) (by simp)) hx⟩ hx50) fun w52 e a k m => pN 1 k rfl fun a k => nn (cI h k rfl (fun hb53 h => ?_) fun hb53 h => ?_))
 · refine wr (pN 1 k rfl fun a k => nn (wp_ret (rt_block (rt_then ?_))))
   refine fS h k m rfl rfl
 refine wr (sv k rfl (r_fa fa40_4 k rfl rfl) fun a k => sv k rfl (r_ldb t137 m 2 hb15 7 k rfl rfl rfl rfl rfl) fun a k => pN 1 k rfl fun a k => oE h fun x57 hx58 h => cE k m call184 rfl rfl rfl (c_slices_ContainsFunc_impl_Type_impl_Type fu _ _ (Enc.rd_agr hf12 (m.a00 (Enc.rd_lt hf12))) ⟨185, [.pointer (some (⟨b26, 0, none⟩ : Addr))], rfl, call185, fun w y54 v55 r e hv56 hx => by subst hv56; have m := m.step e; exact c_impl_Class_2 fu _ _ (hb30.agr (m.a 0 rfl) (by simp)) hx⟩ hx58) fun w60 e a k m => pN 1 k rfl fun a k => nn (cI h k rfl (fun hb61 h => ?_) fun hb61 h => ?_))
 · refine wr (pN 1 k rfl fun a k => nn (wp_ret (rt_block (rt_then ?_))))
   refine fS h k m rfl rfl
 refine wp_skip (nm_block (nm_then ?_))
 refine wr (pN 1 k rfl fun a k => nn (wp_ret (fS h k m rfl rfl)))
theorem c_impl_sound (fu : Nat) {w0 : World} (r1 : Request) {cs2 : List Value} {F3 : List Nat} (hp4 : rd w0 F3 cs2 r1) {r : Bool}
    (h : d_impl_sound fu r1 = some r) :
    Calls Tryz.prog 76 #[.agg cs2.toArray] w0 fun e w => e = .returned (.bool (r)) ∧ Ext [] w0 w := by
 refine enter (vs := [_]) func76 rfl ntmps76 rfl fun a k => ?_
 have m := St.start w0
 obtain ⟨v5, F6, v7, F8, v9, F10, rfl, rfl, hf11, hf12, hf13⟩ := hp4
 unfold d_impl_sound at h
 refine wr (s_box (cs := [.int .i64 r1.fWay, .int .i64 r1.fPallet.fW, .int .i64 r1.fPallet.fD, .int .i64 r1.fPallet.fH, .int .i64 r1.fPallet.fGram, .int .i64 r1.fClasses, v5, v7, .int .i64 r1.fMaster, v9]) m k rfl rfl rfl rfl rfl rfl fun b14 w16 a k m e hb15 => pN 1 k rfl fun a k => nn (wr (sv k rfl (r_ldB ta40 m 0 hb15 0 k rfl rfl rfl rfl rfl rfl) fun a k => oE h fun x17 hx18 h => cE k m call142 rfl rfl rfl (c_impl_Class fu _ (show rd _ _ [.int .i64 r1.fWay, .int .i64 r1.fPallet.fW, .int .i64 r1.fPallet.fD, .int .i64 r1.fPallet.fH, .int .i64 r1.fPallet.fGram, .int .i64 r1.fClasses, v5, v7, .int .i64 r1.fMaster, v9] (r1 : Request) from ⟨_, _, _, _, _, _, rfl, rfl, (Enc.rd_agr hf11 (m.a00 (Enc.rd_lt hf11))), (Enc.rd_agr hf12 (m.a00 (Enc.rd_lt hf12))), (Enc.rd_agr hf13 (m.a00 (Enc.rd_lt hf13)))⟩) hx18) fun w20 e a k m => ?_)))
 refine pN 2 k rfl fun a k => nn (wp_ret (fS h k m rfl rfl))
theorem c_slices_Clone_int_int (fu : Nat) {w0 : World} (sv1 : List Int) {v2 : Value} {F3 : List Nat} (hp4 : rd w0 F3 [v2] sv1) {r : (List Int)}
    (h : d_slices_Clone_int_int fu sv1 = some r) :
    Calls Tryz.prog 158 #[v2] w0 fun e w => ∃ (v0 : Value) (G0 : List Nat), e = .returned (v0) ∧ Ext [] w0 w ∧ ow w G0 [v0] r ∧ (∀ b ∈ G0, w0.heap.size ≤ b) := by
 refine enter (vs := [_]) func158 rfl ntmps158 rfl fun a k => ?_
 have m := St.start w0
 unfold d_slices_Clone_int_int at h
 refine wr (pN 1 k rfl fun a k => nn (wp_seq (wr (pN 1 k rfl fun a k => ?_))))
 obtain ⟨gb5, hg6, hr7⟩ := r_nilq hp4
 refine sv k rfl (hr7 k underlying29 rfl rfl rfl) fun a k => nn (c_cond (b := gb5) k rfl (fun hb8 => ?_) (fun hb8 => ?_))
 · have hx9 := hg6 hb8
   rw [hx9] at h
   have h : some (([] : List Int)) = some r := h
   refine wr (pN 1 k rfl fun a k => nn (wp_ret (rt_then ?_)))
   cases h
   exact finR1 k rfl (RV.tmp k rfl) ⟨_, [], rfl, m.ext, (ow_nil _), (by simp)⟩
 refine wp_skip (nm_then ?_)
 refine wr (s_bs (cs := []) (ps := []) te29 m k rfl rfl rfl rfl rfl rfl rfl (by decide) rfl (by exact (List.forall_mem_nil _)) fun g10 w11 e13 a k m e hb12 => ?_)
 have hf14 := ow_bx hb12 ([] : List Int) rfl rfl rfl
 refine pN 1 k rfl fun a k => oE h fun x15 hx16 h => s_appF hx16 te29 rfl m 0 hf14 (News.rd (Enc.rd_agr hp4 (m.a00 (Enc.rd_lt hp4)))) rfl rfl k rfl rfl rfl rfl rfl rfl rfl fun v17 F18 w19 a k e m hf20 => pN 1 k rfl fun a k => nn (wp_ret ?_)
 cases h
 exact finR1 k rfl (RV.tmp k rfl) ⟨_, F18, rfl, m.ext, (Enc.ow_agr hf20 (m.a 0 rfl)), (m.fresh 0 rfl)⟩
theorem c_slices_Compact_int_int (fu : Nat) {w0 : World} (x1 : List Int) {v2 : Value} {F3 : List Nat} (hp4 : ow w0 F3 [v2] x1) {r : List Int}
    (h : d_slices_Compact_int_int fu x1 = some r) :
    Calls Tryz.prog 210 #[v2] w0 fun e w => ∃ (v0 : Value) (G0 : List Nat), e = .returned v0 ∧ Ext F3 w0 w ∧ ow w G0 [v0] r ∧ (∀ b ∈ G0, b ∈ F3 ∨ w0.heap.size ≤ b) :=
  c_compactInt (fun blk off cap zs w => Tryz.slices_Compact_int blk off cap zs w) (fun p cap w => Tryz.slices_Compact_int_empty p cap w) x1 hp4 h

theorem c_impl_kinds (fu : Nat) {w0 : World} (list1 : List Int) {v2 : Value} {F3 : List Nat} (hp4 : rd w0 F3 [v2] list1) {r : (List Int)}
    (h : d_impl_kinds fu list1 = some r) :
    Calls Tryz.prog 187 #[v2] w0 fun e w => ∃ (v0 : Value) (G0 : List Nat), e = .returned (v0) ∧ Ext [] w0 w ∧ ow w G0 [v0] r ∧ (∀ b ∈ G0, w0.heap.size ≤ b) := by
 refine enter (vs := [_]) func187 rfl ntmps187 rfl fun a k => ?_
 have m := St.start w0
 unfold d_impl_kinds at h
 refine wr (pN 1 k rfl fun a k => nn (wr (pN 1 k rfl fun a k => oE h fun x5 hx6 h => s_call k call158 rfl rfl rfl rfl rfl (c_slices_Clone_int_int fu _ (Enc.rd_agr hp4 (m.a00 (Enc.rd_lt hp4))) hx6) fun e7 w8 hR => ?_)))
 obtain ⟨v13, F9, rfl, e, hf10, hfr11⟩ := hR
 refine ⟨_, rfl, fun a k => ?_⟩
 have m := m.new e F9 (fun b hb => ⟨hfr11 b hb, Enc.rd_lt (Enc.ow_rd hf10) b hb⟩) (Enc.ow_nd hf10)
 refine pN 1 k rfl fun a k => nn (wr (pN 1 k rfl fun a k => oE h fun x14 hx15 h => s_call k call164 rfl rfl rfl rfl rfl (c_slices_Sort_int_int fu _ (Enc.ow_agr hf10 (m.a 0 rfl)) hx15) fun e16 w17 hR => ?_))
 obtain ⟨F20, rfl, e, hlo19, hf18⟩ := hR
 refine ⟨_, rfl, fun a k => ?_⟩
 have m := m.mut 0 rfl e _ (fun b hb => ⟨hlo19 b hb, Enc.rd_lt (Enc.ow_rd hf18) b hb⟩) (Enc.ow_nd hf18)
 refine nn (wr (pN 1 k rfl fun a k => oE h fun x21 hx22 h => s_call k call210 rfl rfl rfl rfl rfl (c_slices_Compact_int_int fu _ (Enc.ow_agr hf18 (m.a 0 rfl)) hx22) fun e23 w24 hR => ?_))
 obtain ⟨v28, F25, rfl, e, hf26, hlo27⟩ := hR
 refine ⟨_, rfl, fun a k => ?_⟩
 have m := m.mut 0 rfl e _ (fun b hb => ⟨hlo27 b hb, Enc.rd_lt (Enc.ow_rd hf26) b hb⟩) (Enc.ow_nd hf26)
 refine pN 1 k rfl fun a k => nn (wp_ret ?_)
 cases h
 exact finR1 k rfl (RV.tmp k rfl) ⟨_, F25, rfl, m.ext, (Enc.ow_agr hf26 (m.a 0 rfl)), (m.fresh 0 rfl)⟩
theorem c_impl_Present (fu : Nat) {w0 : World} (r1 : Request) {cs2 : List Value} {F3 : List Nat} (hp4 : rd w0 F3 cs2 r1) {r : (List Int)}
    (h : d_impl_Present fu r1 = some r) :
    Calls Tryz.prog 150 #[.agg cs2.toArray] w0 fun e w => ∃ (v0 : Value) (G0 : List Nat), e = .returned (v0) ∧ Ext [] w0 w ∧ ow w G0 [v0] r ∧ (∀ b ∈ G0, w0.heap.size ≤ b) := by
 refine enter (vs := [_]) func150 rfl ntmps150 rfl fun a k => ?_
 have m := St.start w0
 obtain ⟨v5, F6, v7, F8, v9, F10, rfl, rfl, hf11, hf12, hf13⟩ := hp4
 unfold d_impl_Present at h
 refine wr (s_box (cs := [.int .i64 r1.fWay, .int .i64 r1.fPallet.fW, .int .i64 r1.fPallet.fD, .int .i64 r1.fPallet.fH, .int .i64 r1.fPallet.fGram, .int .i64 r1.fClasses, v5, v7, .int .i64 r1.fMaster, v9]) m k rfl rfl rfl rfl rfl rfl fun b14 w16 a k m e hb15 => pN 1 k rfl fun a k => nn (wp_seq (wr (sv k rfl (r_ldB ta40 m 0 hb15 0 k rfl rfl rfl rfl rfl rfl) fun a k => oE h fun x17 hx18 h => cE k m call76 rfl rfl rfl (c_impl_sound fu _ (show rd _ _ [.int .i64 r1.fWay, .int .i64 r1.fPallet.fW, .int .i64 r1.fPallet.fD, .int .i64 r1.fPallet.fH, .int .i64 r1.fPallet.fGram, .int .i64 r1.fClasses, v5, v7, .int .i64 r1.fMaster, v9] (r1 : Request) from ⟨_, _, _, _, _, _, rfl, rfl, (Enc.rd_agr hf11 (m.a00 (Enc.rd_lt hf11))), (Enc.rd_agr hf12 (m.a00 (Enc.rd_lt hf12))), (Enc.rd_agr hf13 (m.a00 (Enc.rd_lt hf13)))⟩) hx18) fun w20 e a k m => ?_))))
 refine pN 1 k rfl fun a k => nn (cI h k rfl (fun hb21 h => ?_) fun hb21 h => ?_)
 · refine wr (pN 1 k rfl fun a k => nn (wp_ret (rt_then ?_)))
   cases h
   exact finR1 k rfl (RV.tmp k rfl) ⟨_, [], rfl, m.ext, (ow_nil _), (by simp)⟩
 refine wp_skip (nm_then ?_)
 refine wr (s_bs (cs := []) (ps := []) te29 m k rfl rfl rfl rfl rfl rfl rfl (by decide) rfl (by exact (List.forall_mem_nil _)) fun g22 w23 e25 a k m e hb24 => ?_)
 have hf26 := ow_bx hb24 ([] : List Int) rfl rfl rfl
 refine pN 1 k rfl fun a k => nn (wp_seq (wr (sv k rfl (r_fa fa40_6 k rfl rfl) fun a k => sv k rfl (r_ldb t138 m 1 hb15 9 k rfl rfl rfl rfl rfl) fun a k => sv k rfl (r_len (α := Item) hf13 k underlying38 rfl rfl) fun a k => pN 1 k rfl fun a k => nn (wp_block (c_loop (fun n a w => ∃ (out74 : List Int) (v75 : Value) (F76 : List Nat) (u77 : World) (x79 : Int), K 25 [(3, v75), (11, v9), (12, .int .i64 ((r1.fItems.length : Int))), (13, .int .i64 x79)] a ∧ St [] w0 w [(F76, u77)] ∧ ow u77 F76 [v75] out74 ∧ d_impl_Present_L1 fu r1 n out74 x79 = some r) ?_ ?_ fu _ _ ?_)))))
 · rintro a w ⟨_, _, _, _, _, _, _, _, h⟩
   exact nS h
 · rintro m80 a w73 ⟨out74, v75, F76, u77, x79, k, m, hf78, h⟩
   rw [d_impl_Present_L1_s] at h
   unfold d_impl_Present_L1_B at h
   refine wr (pN 1 k rfl fun a k => nn (wp_seq (cI h k rfl (fun hb81 h => ?_) fun hb81 h => ?_)))
   · refine wp_skip (nm_then ?_)
     refine wp_seq (wp_block (wr (oE h fun x82 hx83 h => sv k rfl (r_ixa hf13 hx83 k ts38 rfl rfl rfl) fun a k => sv k rfl (r_lde hf13 (m.a00 (Enc.rd_lt hf13)) hx83 ta120 k rfl rfl) fun a k => s_alloc (cs := [.int .i64 0, .int .i64 0, .int .i64 0, .int .i64 0, .int .i64 0, .int .i64 0, .int .i64 0]) m k zeroValue120 rfl rfl rfl rfl rfl fun b84 w86 a k m e hb85 => s_stb (cs' := [.int .i64 x82.fId, .int .i64 x82.fW, .int .i64 x82.fH, .int .i64 x82.fD, .int .i64 x82.fGram, .int .i64 x82.fClass, .int .i64 x82.fCount]) sizeOf120 m 0 hb85 0 k rfl rfl rfl rfl rfl rfl rfl rfl rfl rfl rfl fun w87 a k e m hb88 => nn (wp_region_lit (pN 1 k rfl fun a k => sv k rfl (r_fa fa120_5 k rfl rfl) fun a k => sv k rfl (r_ldb t13 m 0 hb88 5 k rfl rfl rfl rfl rfl) fun a k => ?_)))))
     refine s_bs (cs := [.int .i64 x82.fClass]) (ps := [(0, .tmp 19)]) te29 m k rfl rfl rfl rfl rfl rfl rfl (by decide) rfl (by exact (List.forall_mem_cons.2 ⟨rfl, (List.forall_mem_nil _)⟩)) fun g89 w90 e92 a k m e hb91 => ?_
     have hf93 := ow_bx hb91 ([x82.fClass] : List Int) rfl rfl rfl
     refine oE h fun x94 hx95 h => s_appF hx95 te29 rfl m 2 hf78 (News.rd (Enc.rd_agr (Enc.ow_rd hf93) (m.a 0 rfl))) rfl rfl k rfl rfl rfl rfl rfl rfl rfl fun v96 F97 w98 a k e m hf99 => pN 1 k rfl fun a k => wpList_nil (nm_block (nm_then ?_))
     refine wp_region_lit (pN 2 k rfl fun a k => nn ?_)
     exact ⟨x94, v96, F97, w98, w64 (x79 + 1), k.keep [3, 11, 12, 13] rfl, m.sel [2] rfl (by decide), hf99, h⟩
   refine wp_exit (ex_then (ex_then (ex_same (nm_then ?_))))
   refine wr (pN 1 k rfl fun a k => oE h fun x100 hx101 h => s_call k call187 rfl rfl rfl rfl rfl (c_impl_kinds fu _ (Enc.rd_agr (Enc.ow_rd hf78) (m.a 0 rfl)) hx101) fun e102 w103 hR => ?_)
   obtain ⟨v108, F104, rfl, e, hf105, hfr106⟩ := hR
   refine ⟨_, rfl, fun a k => ?_⟩
   have m := m.new e F104 (fun b hb => ⟨hfr106 b hb, Enc.rd_lt (Enc.ow_rd hf105) b hb⟩) (Enc.ow_nd hf105)
   refine pN 1 k rfl fun a k => nn (wp_ret ?_)
   cases h
   exact finR1 k rfl (RV.tmp k rfl) ⟨_, F104, rfl, m.ext, (Enc.ow_agr hf105 (m.a 0 rfl)), (m.fresh 0 rfl)⟩
 exact ⟨([] : List Int), (.slice (some ⟨g22, 0, none⟩) 0 0), [g22], w23, 0, k.keep [3, 11, 12, 13] rfl, m.sel [0] rfl (by decide), hf26, h⟩
theorem c_impl_mutual (fu : Nat) {w0 : World} (pairs1 : List Pair) (a5 : Int) (b6 : Int) {v2 : Value} {F3 : List Nat} (hp4 : rd w0 F3 [v2] pairs1) {r : Bool}
    (h : d_impl_mutual fu pairs1 a5 b6 = some r) :
    Calls Tryz.prog 161 #[v2, .int .i64 a5, .int .i64 b6] w0 fun e w => e = .returned (.bool (r)) ∧ Ext [] w0 w := by
 refine enter (vs := [_, _, _]) func161 rfl ntmps161 rfl fun a k => ?_
 have m := St.start w0
 unfold d_impl_mutual at h
 refine wr (pN 1 k rfl fun a k => nn (wr (pN 3 k rfl fun a k => oE h fun x7 hx8 h => cE k m call192 rfl rfl rfl (c_impl_Beside fu _ _ _ (Enc.rd_agr hp4 (m.a00 (Enc.rd_lt hp4))) hx8) fun w10 e a k m => pN 1 k rfl fun a k => bsplit (x7) (fun hb11 => ?_) (fun hb11 => ?_))))
 · have h := bif_t hb11 h
   refine rB k 11 rfl hb11 fun k => pN 3 k rfl fun a k => oE h fun x12 hx13 h => cE k m call192 rfl rfl rfl (c_impl_Beside fu _ _ _ (Enc.rd_agr hp4 (m.a00 (Enc.rd_lt hp4))) hx13) fun w15 e a k m => pN 2 k rfl fun a k => nn (wp_ret (fS h k m rfl rfl))
 have h := bif_f hb11 h
 refine rB k 11 rfl hb11 fun k => pN 6 k rfl fun a k => nn (wp_ret (fS h k m rfl rfl))
theorem c_impl_Groups_1_1 (fu : Nat) {w0 : World} (x1 : Int) (x2 : List Pair) (x8 : Int) {v5 : Value} {F6 : List Nat} {b3 : Nat} (hp4 : bx w0 b3 [v5] 36) (hp7 : rd w0 F6 [v5] x2) {b9 : Nat} (hp10 : bx w0 b9 [.int .i64 x8] 3) {r : Bool}
    (h : d_impl_Groups_1_1 fu x1 x2 x8 = some r) :
    Calls Tryz.prog 189 #[.int .i64 x1, .pointer (some (⟨b3, 0, none⟩ : Addr)), .pointer (some (⟨b9, 0, none⟩ : Addr))] w0 fun e w => e = .returned (.bool (r)) ∧ Ext [] w0 w := by
 refine enter (vs := [_, _, _]) func189 rfl ntmps189 rfl fun a k => ?_
 have m := St.start w0
 unfold d_impl_Groups_1_1 at h
 refine wr (pN 1 k rfl fun a k => nn (wr (sv k rfl (r_ld1 t136 (r := []) (hp4.at (m.a00 hp4.lt1) 0 1 rfl rfl rfl) k rfl rfl) fun a k => sv k rfl (r_ld1 t13 (r := []) (hp10.at (m.a00 hp10.lt1) 0 1 rfl rfl rfl) k rfl rfl) fun a k => pN 1 k rfl fun a k => oE h fun x11 hx12 h => cE k m call161 rfl rfl rfl (c_impl_mutual fu _ _ _ (Enc.rd_agr hp7 (m.a00 (Enc.rd_lt hp7))) hx12) fun w14 e a k m => pN 2 k rfl fun a k => nn (wp_ret (fS h k m rfl rfl)))))
theorem c_slices_IndexFunc_int_int (fu : Nat) {w0 : World} (sv1 : List Int) (f5 : Int → Option Bool) {v2 : Value} {F3 : List Nat} (hp4 : rd w0 F3 [v2] sv1) {v6 : Value} (hp7 : FnOk1 Tryz.prog w0 v6 f5) {r : Int}
    (h : d_slices_IndexFunc_int_int fu sv1 f5 = some r) :
    Calls Tryz.prog 166 #[v2, v6] w0 fun e w => e = .returned (.int .i64 r) ∧ Ext [] w0 w := by
 refine enter (vs := [_, _]) func166 rfl ntmps166 rfl fun a k => ?_
 have m := St.start w0
 obtain ⟨fid8, cap9, rfl, hcl10, hcc11⟩ := hp7
 unfold d_slices_IndexFunc_int_int at h
 refine wr (pN 1 k rfl fun a k => nn (wp_seq (wr (pN 1 k rfl fun a k => sv k rfl (r_len (α := Int) hp4 k underlying29 rfl rfl) fun a k => pN 1 k rfl fun a k => nn (wp_block (c_loop (fun n a w => ∃ (x32 : Int), K 19 [(0, v2), (1, (.func (.func fid8) #[] cap9.toArray)), (7, .int .i64 ((sv1.length : Int))), (8, .int .i64 x32)] a ∧ St [] w0 w [] ∧ d_slices_IndexFunc_int_int_L1 fu sv1 f5 n x32 = some r) ?_ ?_ fu _ _ ?_))))))
 · rintro a w ⟨_, _, _, h⟩
   exact nS h
 · rintro m33 a w31 ⟨x32, k, m, h⟩
   rw [d_slices_IndexFunc_int_int_L1_s] at h
   unfold d_slices_IndexFunc_int_int_L1_B at h
   refine wr (pN 1 k rfl fun a k => nn (wp_seq (cI h k rfl (fun hb34 h => ?_) fun hb34 h => ?_)))
   · refine wp_skip (nm_then ?_)
     refine wp_seq (wp_block (wr (pN 2 k rfl fun a k => nn (wr (pN 3 k rfl fun a k => oE h fun x35 hx36 h => sv k rfl (r_ixa hp4 hx36 k ts29 rfl rfl rfl) fun a k => sv k rfl (r_lde1 hp4 (m.a00 (Enc.rd_lt hp4)) hx36 0 t13 k rfl rfl rfl rfl) fun a k => oE h fun x37 hx38 h => s_callv k hcl10 rfl rfl rfl rfl rfl rfl (hcc11 _ _ _ _ m.ext rfl hx38) fun e39 w40 hR => ?_)))))
     obtain ⟨rfl, e⟩ := hR
     refine ⟨_, rfl, fun a k => ?_⟩
     have m := m.step e
     refine nn (cI h k rfl (fun hb41 h => ?_) fun hb41 h => ?_)
     · refine wr (pN 2 k rfl fun a k => nn (wp_ret (rt_block (rt_then (rt_then (rt_block (rt_then ?_)))))))
       refine fS h k m rfl rfl
     refine wp_skip (nm_block (nm_then ?_))
     refine wp_region_lit (pN 2 k rfl fun a k => nn ?_)
     exact ⟨w64 (x32 + 1), k.keep [0, 1, 7, 8] rfl, m.sel [] rfl (by decide), h⟩
   refine wp_exit (ex_then (ex_then (ex_same (nm_then ?_))))
   refine wr (pN 1 k rfl fun a k => nn (wp_ret (fS h k m rfl rfl)))
 exact ⟨0, k.keep [0, 1, 7, 8] rfl, m.sel [] rfl (by decide), h⟩
theorem c_slices_ContainsFunc_int_int (fu : Nat) {w0 : World} (sv1 : List Int) (f5 : Int → Option Bool) {v2 : Value} {F3 : List Nat} (hp4 : rd w0 F3 [v2] sv1) {v6 : Value} (hp7 : FnOk1 Tryz.prog w0 v6 f5) {r : Bool}
    (h : d_slices_ContainsFunc_int_int fu sv1 f5 = some r) :
    Calls Tryz.prog 117 #[v2, v6] w0 fun e w => e = .returned (.bool (r)) ∧ Ext [] w0 w := by
 refine enter (vs := [_, _]) func117 rfl ntmps117 rfl fun a k => ?_
 have m := St.start w0
 obtain ⟨fid8, cap9, rfl, hcl10, hcc11⟩ := hp7
 unfold d_slices_ContainsFunc_int_int at h
 refine wr (pN 1 k rfl fun a k => nn (wr (pN 2 k rfl fun a k => oE h fun x14 hx15 h => cE k m call166 rfl rfl rfl (c_slices_IndexFunc_int_int fu _ _ (Enc.rd_agr hp4 (m.a00 (Enc.rd_lt hp4))) ⟨_, _, rfl, hcl10, fun w y12 v13 r e => hcc11 w y12 v13 r (m.ext.trans e (by simp))⟩ hx15) fun w17 e a k m => pN 2 k rfl fun a k => nn (wp_ret (fS h k m rfl rfl)))))
theorem c_impl_Groups_1 (fu : Nat) {w0 : World} (l1 : List Int) (x5 : List Pair) (x11 : Int) {v2 : Value} {F3 : List Nat} (hp4 : rd w0 F3 [v2] l1) {v8 : Value} {F9 : List Nat} {b6 : Nat} (hp7 : bx w0 b6 [v8] 36) (hp10 : rd w0 F9 [v8] x5) {b12 : Nat} (hp13 : bx w0 b12 [.int .i64 x11] 3) {r : Bool}
    (h : d_impl_Groups_1 fu l1 x5 x11 = some r) :
    Calls Tryz.prog 188 #[v2, .pointer (some (⟨b6, 0, none⟩ : Addr)), .pointer (some (⟨b12, 0, none⟩ : Addr))] w0 fun e w => e = .returned (.bool (r)) ∧ Ext [] w0 w := by
 refine enter (vs := [_, _, _]) func188 rfl ntmps188 rfl fun a k => ?_
 have m := St.start w0
 unfold d_impl_Groups_1 at h
 refine wr (pN 1 k rfl fun a k => nn (wr (pN 2 k rfl fun a k => oE h fun x17 hx18 h => cE k m call117 rfl rfl rfl (c_slices_ContainsFunc_int_int fu _ _ (Enc.rd_agr hp4 (m.a00 (Enc.rd_lt hp4))) ⟨189, [.pointer (some (⟨b6, 0, none⟩ : Addr)), .pointer (some (⟨b12, 0, none⟩ : Addr))], rfl, call189, fun w y14 v15 r e hv16 hx => by subst hv16; have m := m.step e; exact c_impl_Groups_1_1 fu _ _ _ (hp7.agr (m.a00 hp7.lt1) (by simp)) (Enc.rd_agr hp10 (m.a00 (Enc.rd_lt hp10))) (hp13.agr (m.a00 hp13.lt1) (by simp)) hx⟩ hx18) fun w20 e a k m => pN 2 k rfl fun a k => nn (wp_ret (fS h k m rfl rfl)))))
theorem c_slices_IndexFunc_ints_int (fu : Nat) {w0 : World} (sv1 : List (List Int)) (f5 : (List Int) → Option Bool) {v2 : Value} {F3 : List Nat} (hp4 : rd w0 F3 [v2] sv1) {v6 : Value} (hp7 : FnOk1 Tryz.prog w0 v6 f5) {r : Int}
    (h : d_slices_IndexFunc_ints_int fu sv1 f5 = some r) :
    Calls Tryz.prog 155 #[v2, v6] w0 fun e w => e = .returned (.int .i64 r) ∧ Ext [] w0 w := by
 refine enter (vs := [_, _]) func155 rfl ntmps155 rfl fun a k => ?_
 have m := St.start w0
 obtain ⟨fid8, cap9, rfl, hcl10, hcc11⟩ := hp7
 unfold d_slices_IndexFunc_ints_int at h
 refine wr (pN 1 k rfl fun a k => nn (wp_seq (wr (pN 1 k rfl fun a k => sv k rfl (r_len (α := List Int) hp4 k underlying47 rfl rfl) fun a k => pN 1 k rfl fun a k => nn (wp_block (c_loop (fun n a w => ∃ (x46 : Int), K 19 [(0, v2), (1, (.func (.func fid8) #[] cap9.toArray)), (7, .int .i64 ((sv1.length : Int))), (8, .int .i64 x46)] a ∧ St [] w0 w [] ∧ d_slices_IndexFunc_ints_int_L1 fu sv1 f5 n x46 = some r) ?_ ?_ fu _ _ ?_))))))
 · rintro a w ⟨_, _, _, h⟩
   exact nS h
 · rintro m47 a w45 ⟨x46, k, m, h⟩
   rw [d_slices_IndexFunc_ints_int_L1_s] at h
   unfold d_slices_IndexFunc_ints_int_L1_B at h
   refine wr (pN 1 k rfl fun a k => nn (wp_seq (cI h k rfl (fun hb48 h => ?_) fun hb48 h => ?_)))
   · refine wp_skip (nm_then ?_)
     refine wp_seq (wp_block (wr (pN 2 k rfl fun a k => nn (wr (pN 3 k rfl fun a k => oE h fun x49 hx50 h => sv k rfl (r_ixa hp4 hx50 k ts47 rfl rfl rfl) fun a k => ?_)))))
     obtain ⟨G51, cs52, hG53, hr54, hp55, hb56⟩ := rd_get hp4 (ix_some hx50).2.2
     obtain ⟨v57, rfl⟩ : ∃ v, cs52 = [v] := by obtain ⟨_, _, hq, _⟩ := hr54; exact ⟨_, hq⟩
     refine sv k rfl (r_ld1 t129 (hp55.agr (m.a00 (Enc.rd_lt hp4)) hb56) k rfl rfl) fun a k => oE h fun x58 hx59 h => s_callv k hcl10 rfl rfl rfl rfl rfl rfl (hcc11 _ _ _ _ m.ext ⟨_, (Enc.rd_agr hr54 (m.a00 (Enc.rd_lt hr54)))⟩ hx59) fun e60 w61 hR => ?_
     obtain ⟨rfl, e⟩ := hR
     refine ⟨_, rfl, fun a k => ?_⟩
     have m := m.step e
     refine nn (cI h k rfl (fun hb62 h => ?_) fun hb62 h => ?_)
     · refine wr (pN 2 k rfl fun a k => nn (wp_ret (rt_block (rt_then (rt_then (rt_block (rt_then ?_)))))))
       refine fS h k m rfl rfl
     refine wp_skip (nm_block (nm_then ?_))
     refine wp_region_lit (pN 2 k rfl fun a k => nn ?_)
     exact ⟨w64 (x46 + 1), k.keep [0, 1, 7, 8] rfl, m.sel [] rfl (by decide), h⟩
   refine wp_exit (ex_then (ex_then (ex_same (nm_then ?_))))
   refine wr (pN 1 k rfl fun a k => nn (wp_ret (fS h k m rfl rfl)))
 exact ⟨0, k.keep [0, 1, 7, 8] rfl, m.sel [] rfl (by decide), h⟩
theorem c_impl_Groups (fu : Nat) {w0 : World} (pairs1 : List Pair) (present5 : List Int) {v2 : Value} {F3 : List Nat} (hp4 : rd w0 F3 [v2] pairs1) {v6 : Value} {F7 : List Nat} (hp8 : rd w0 F7 [v6] present5) {r : (List (List Int))}
    (h : d_impl_Groups fu pairs1 present5 = some r) :
    Calls Tryz.prog 149 #[v2, v6] w0 fun e w => ∃ (v0 : Value) (G0 : List Nat), e = .returned (v0) ∧ Ext [] w0 w ∧ ow w G0 [v0] r ∧ (∀ b ∈ G0, w0.heap.size ≤ b) := by
 refine enter (vs := [_, _]) func149 rfl ntmps149 rfl fun a k => ?_
 have m := St.start w0
 unfold d_impl_Groups at h
 refine wr (s_box (cs := [v2]) m k rfl rfl rfl rfl rfl (rd_c hp4) fun b9 w11 a k m e hb10 => pN 1 k rfl fun a k => nn (wr (s_bs (cs := []) (ps := []) te47 m k rfl rfl rfl rfl rfl rfl rfl (by decide) rfl (by exact (List.forall_mem_nil _)) fun g12 w13 e15 a k m e hb14 => ?_)))
 have hf16 := ow_bx0 (α := List Int) hb14
 refine pN 1 k rfl fun a k => nn (wp_seq (wr (pN 1 k rfl fun a k => oE h fun x17 hx18 h => s_call k call187 rfl rfl rfl rfl rfl (c_impl_kinds fu _ (Enc.rd_agr hp8 (m.a00 (Enc.rd_lt hp8))) hx18) fun e19 w20 hR => ?_)))
 obtain ⟨v25, F21, rfl, e, hf22, hfr23⟩ := hR
 refine ⟨_, rfl, fun a k => ?_⟩
 have m := m.new e F21 (fun b hb => ⟨hfr23 b hb, Enc.rd_lt (Enc.ow_rd hf22) b hb⟩) (Enc.ow_nd hf22)
 refine sv k rfl (r_len (α := Int) (Enc.ow_rd hf22) k underlying29 rfl rfl) fun a k => pN 1 k rfl fun a k => nn (wp_block (c_loop (fun n a w => ∃ (u575 : World) (out577 : List (List Int)) (v578 : Value) (F579 : List Nat) (u580 : World) (x582 : Int), K 42 [(2, .pointer (some (⟨b9, 0, none⟩ : Addr))), (5, v578), (11, v25), (12, .int .i64 ((x17.length : Int))), (13, .int .i64 x582)] a ∧ St [] w0 w [([b9], u575), (F21, w20), (F579, u580)] ∧ bx u575 b9 [v2] 36 ∧ ow u580 F579 [v578] out577 ∧ d_impl_Groups_L1 fu pairs1 x17 n out577 x582 = some r) ?_ ?_ fu _ _ ?_))
 · rintro a w ⟨_, _, _, _, _, _, _, _, _, _, h⟩
   exact nS h
 · rintro m583 a w574 ⟨u575, out577, v578, F579, u580, x582, k, m, hb576, hf581, h⟩
   rw [d_impl_Groups_L1_s] at h
   unfold d_impl_Groups_L1_B at h
   refine wr (pN 1 k rfl fun a k => nn (wp_seq (cI h k rfl (fun hb584 h => ?_) fun hb584 h => ?_)))
   · refine wp_skip (nm_then ?_)
     refine c_cut (fun a w => ∃ (u716 : World) (out718 : List (List Int)) (v719 : Value) (F720 : List Nat) (u721 : World), K 42 [(2, .pointer (some (⟨b9, 0, none⟩ : Addr))), (5, v719), (11, v25), (12, .int .i64 ((x17.length : Int))), (13, .int .i64 x582)] a ∧ St [] w0 w [([b9], u716), (F21, w20), (F720, u721)] ∧ bx u716 b9 [v2] 36 ∧ ow u721 F720 [v719] out718 ∧ d_impl_Groups_J1 fu (d_impl_Groups_L1 fu pairs1 x17 m583) x582 out718 = some r) ?_ ?_
     · rintro a w715 ⟨u716, out718, v719, F720, u721, k, m, hb717, hf722, h⟩
       unfold d_impl_Groups_J1 at h
       refine wp_region_lit (pN 2 k rfl fun a k => nn ?_)
       exact ⟨u716, out718, v719, F720, u721, w64 (x582 + 1), k.keep [2, 5, 11, 12, 13] rfl, m.sel [0, 1, 2] rfl (by decide), hb717, hf722, h⟩
     refine wp_block (wr (oE h fun x723 hx724 h => sv k rfl (r_ixa (Enc.ow_rd hf22) hx724 k ts29 rfl rfl rfl) fun a k => sv k rfl (r_lde1 (Enc.ow_rd hf22) (m.a 1 rfl) hx724 0 t13 k rfl rfl rfl rfl) fun a k => s_alloc (cs := [.int .i64 0]) m k zeroValue3 rfl rfl rfl rfl rfl fun b725 w727 a k m e hb726 => s_stb (cs' := [.int .i64 x723]) sizeOf3 m 0 hb726 0 k rfl rfl rfl rfl rfl rfl rfl rfl rfl rfl rfl fun w728 a k e m hb729 => nn (wp_seq (wr (sv k rfl (r_ldb t13 m 0 hb729 0 k rfl rfl rfl rfl rfl) fun a k => oE h fun x730 hx731 h => cE k m call99 rfl rfl rfl (c_impl_in fu _ _ _  hx731) fun w733 e a k m => pN 1 k rfl fun a k => nn (cI h k rfl (fun hb734 h => ?_) fun hb734 h => ?_))))))
     · refine wp_exit (ex_then (ex_same (nm_then ?_)))
       exact ⟨u575, out577, v578, F579, u580, k.keep [2, 5, 11, 12, 13] rfl, m.sel [1, 2, 3] rfl (by decide), hb576, hf581, h⟩
     refine wp_skip (nm_then ?_)
     refine wr (pN 2 k rfl fun a k => oE h fun x738 hx739 h => cE k m call155 rfl rfl rfl (c_slices_IndexFunc_ints_int fu _ _ (Enc.rd_agr (Enc.ow_rd hf581) (m.a 3 rfl)) ⟨188, [.pointer (some (⟨b9, 0, none⟩ : Addr)), .pointer (some (⟨b725, 0, none⟩ : Addr))], rfl, call188, fun w y735 v736 r e hv737 hx => by obtain ⟨_, hv737⟩ := hv737; have m := m.step e; exact c_impl_Groups_1 fu _ _ _ hv737 (hb576.agr (m.a 1 rfl) (by simp)) (Enc.rd_agr hp4 (m.a00 (Enc.rd_lt hp4))) (hb729.agr (m.a 0 rfl) (by simp)) hx⟩ hx739) fun w741 e a k m => pN 1 k rfl fun a k => nn (wr (pN 2 k rfl fun a k => nn (cI h k rfl (fun hb742 h => ?_) fun hb742 h => ?_))))
     · refine wp_region_lit (pN 1 k rfl fun a k => sv k rfl (r_ldb t13 m 0 hb729 0 k rfl rfl rfl rfl rfl) fun a k => s_bs (cs := [.int .i64 x723]) (ps := [(0, .tmp 26)]) te29 m k rfl rfl rfl rfl rfl rfl rfl (by decide) rfl (by exact (List.forall_mem_cons.2 ⟨rfl, (List.forall_mem_nil _)⟩)) fun g743 w744 e746 a k m e hb745 => ?_)
       have hf747 := ow_bx hb745 ([x723] : List Int) rfl rfl rfl
       refine s_bs (cs := [(.slice (some ⟨g743, 0, none⟩) 1 1)]) (ps := [(0, .tmp 27)]) te47 m k rfl rfl rfl rfl rfl rfl rfl (by decide) rfl (by exact (List.forall_mem_cons.2 ⟨congrArg Array.size (rd_c (Enc.ow_rd hf747)), (List.forall_mem_nil _)⟩)) fun g748 w749 e751 a k m e hb750 => oE h fun x752 hx753 h => ?_
       have hy758 := Enc.ow_agr hf747 (m.a 1 rfl)
       have hn759 := News.box hb750 (m.a 0 rfl) (by simp) (m := 1)
       have hA760 := m.a 5 rfl
       have m := m.sel [5, 1, 0, 2, 3, 4] rfl (by decide)
       have m := m.join2
       refine s_appO (F := F579) (G := [g743]) hx753 te47 rfl m hf581 hA760 hn759 hy758 (Agr.refl _ _) k rfl rfl rfl rfl rfl rfl fun v754 F755 w756 a k e m hf757 => pN 1 k rfl fun a k => wpList_nil (nm_block (nm_then ?_))
       exact ⟨u575, x752, v754, F755, w756, k.keep [2, 5, 11, 12, 13] rfl, m.sel [3, 4, 0] rfl (by decide), hb576, hf757, h⟩
     refine d_go (F579) mixo m rfl fun w761 hMd => ?_
     have m := hMd
     have s := Ext.refl ((F579) : List Nat) w761
     refine dp k 0 rfl (by kernel_rfl) rfl s (fun _ _ _ => id) rfl fun a k => dp k 1 rfl (by kernel_rfl) rfl s (fun _ _ _ => id) rfl fun a k => dp k 2 rfl (by kernel_rfl) rfl s (fun _ _ _ => id) rfl fun a k => dp k 3 rfl (by kernel_rfl) rfl s (fun _ _ _ => id) rfl fun a k => oE h fun x762 hx763 h => dt k 4 rfl (by kernel_rfl) rfl s (fun _ _ _ => id) (fun w s => r_ixa (Enc.ow_rd hf581) hx763 k ts47 rfl rfl rfl) fun a k => ?_
     obtain ⟨G764, cs765, hG766, hr767, hp768, hb769⟩ := rd_get (Enc.ow_rd hf581) (ix_some hx763).2.2
     obtain ⟨v770, rfl⟩ : ∃ v, cs765 = [v] := by obtain ⟨_, _, hq, _⟩ := hr767; exact ⟨_, hq⟩
     refine dt k 6 rfl (by kernel_rfl) rfl s (fun _ _ _ => id) (fun w s => r_ld1 t13 (r := []) (hb729.at (hMd.az 0 3 rfl rfl rfl s) 0 1 rfl rfl rfl) k rfl rfl) fun a k => ?_
     obtain ⟨G771, cs772, hG773, hr774, hp775, hb776⟩ := rd_get (Enc.ow_rd hf581) (ix_some hx763).2.2
     obtain ⟨v777, rfl⟩ : ∃ v, cs772 = [v] := by obtain ⟨_, _, hq, _⟩ := hr774; exact ⟨_, hq⟩
     refine d_two 5 7 (by kernel_rfl) rfl rfl ?_ ?_ 
     · obtain ⟨G778, cs779, hG780, hr781, hp782, hb783⟩ := rd_get (Enc.ow_rd hf581) (ix_some hx763).2.2
       obtain ⟨v784, rfl⟩ : ∃ v, cs779 = [v] := by obtain ⟨_, _, hq, _⟩ := hr781; exact ⟨_, hq⟩
       refine sv k rfl (r_ld1 t129 (hp782.agr (m.a 3 rfl) hb783) k rfl rfl) fun a k => wpList_nil ⟨s, ?_⟩
       refine d_one 7 (by kernel_rfl) rfl (s_bsN (cs := [.int .i64 x723]) (ps := [(0, .tmp 36)]) te29 m k rfl rfl rfl rfl rfl rfl rfl (by decide) rfl (by exact (List.forall_mem_cons.2 ⟨rfl, (List.forall_mem_nil _)⟩)) fun g785 w786 e788 a k m e hb787 hgn789 => ?_)
       have hlo791 := lo1 (Nat.le_trans s.size hgn789)
       have hf790 := ow_bx hb787 ([x723] : List Int) rfl rfl rfl
       have s := s.trans e (by simp)
       refine wpList_nil ⟨s, ?_⟩
       refine d_one 8 (by kernel_rfl) rfl ?_
       obtain ⟨A798, B799, m, hH800, hO801, hsA802, hsB803⟩ := m.opnS 4 rfl hf581 hx763 hp782 rfl (M' := [([g785], w786), ([b725], w728), ([b9], u575), (F21, w20)]) rfl
       refine oE h fun x792 hx793 h => s_appFN hx793 te29 rfl m 1 hO801 (News.rd (Enc.rd_agr (Enc.ow_rd hf790) (m.a 2 rfl))) rfl rfl k rfl rfl rfl rfl rfl rfl rfl fun v794 F795 w796 a k e m hf797 hap804 => ?_
       have hlo805 : ∀ y ∈ F795, y ∈ (F579) ∨ _ ≤ y := fun y hy => (hap804 y hy).elim (fun hy => (fun y hy => (fun y hy => Or.inl hy) y (hsB803 y hy)) y hy) (fun h => Or.inr (Nat.le_trans s.size h))
       have s := s.trans e (fun y hy => (fun y hy => Or.inl hy) y (hsB803 y hy))
       refine wpList_nil ⟨s, ?_⟩
       refine oE h fun x806 hx807 h => dt k 9 rfl (by kernel_rfl) rfl s (fun _ _ _ => id) (fun w s => r_ixa (Enc.ow_rd hf581) hx763 k ts47 rfl rfl rfl) fun a k => d_one 10 (by kernel_rfl) rfl (s_stH1 (α := List Int) (sz := 1) (cs' := [v794]) sizeOf29 m 0 hH800 0 k (rd_c (Enc.ow_rd hf797)) (rd_o (Enc.ow_rd hf797)) rfl rfl rfl rfl rfl rfl rfl rfl rfl rfl fun w808 a k e m hH809 => ?_)
       obtain ⟨F810, m, hf811⟩ := (m.sel [0, 1, 2, 3, 4, 5] rfl (by decide)).cls hH809 hf797
       have s := s.trans e (fun y hy => (fun y hy => Or.inl hy) y (hsA802 y hy))
       refine wpList_nil ⟨s, ?_⟩
       refine d_done (by kernel_rfl) ?_
       have k := k.keep [2, 11, 12, 5, 13] rfl
       refine (nm_block (nm_then ?_))
       exact ⟨u575, setx out577 x738 x792, v578, F810, w808, k.keep [2, 5, 11, 12, 13] rfl, m.sel [3, 4, 0] rfl (by decide), hb576, hf811, h⟩
     refine s_bsN (cs := [.int .i64 x723]) (ps := [(0, .tmp 36)]) te29 m k rfl rfl rfl rfl rfl rfl rfl (by decide) rfl (by exact (List.forall_mem_cons.2 ⟨rfl, (List.forall_mem_nil _)⟩)) fun g812 w813 e815 a k m e hb814 hgn816 => ?_
     have hlo818 := lo1 (Nat.le_trans s.size hgn816)
     have hf817 := ow_bx hb814 ([x723] : List Int) rfl rfl rfl
     have s := s.trans e (by simp)
     refine wpList_nil ⟨s, ?_⟩
     obtain ⟨G819, cs820, hG821, hr822, hp823, hb824⟩ := rd_get (Enc.ow_rd hf581) (ix_some hx763).2.2
     obtain ⟨v825, rfl⟩ : ∃ v, cs820 = [v] := by obtain ⟨_, _, hq, _⟩ := hr822; exact ⟨_, hq⟩
     refine d_one 5 (by kernel_rfl) rfl ?_
     obtain ⟨G826, cs827, hG828, hr829, hp830, hb831⟩ := rd_get (Enc.ow_rd hf581) (ix_some hx763).2.2
     obtain ⟨v832, rfl⟩ : ∃ v, cs827 = [v] := by obtain ⟨_, _, hq, _⟩ := hr829; exact ⟨_, hq⟩
     refine sv k rfl (r_ld1 t129 (hp830.agr (m.a 4 rfl) hb831) k rfl rfl) fun a k => wpList_nil ⟨s, ?_⟩
     refine d_one 8 (by kernel_rfl) rfl ?_
     obtain ⟨A839, B840, m, hH841, hO842, hsA843, hsB844⟩ := m.opnS 4 rfl hf581 hx763 hp830 rfl (M' := [([g812], w813), ([b725], w728), ([b9], u575), (F21, w20)]) rfl
     refine oE h fun x833 hx834 h => s_appFN hx834 te29 rfl m 1 hO842 (News.rd (Enc.rd_agr (Enc.ow_rd hf817) (m.a 2 rfl))) rfl rfl k rfl rfl rfl rfl rfl rfl rfl fun v835 F836 w837 a k e m hf838 hap845 => ?_
     have hlo846 : ∀ y ∈ F836, y ∈ (F579) ∨ _ ≤ y := fun y hy => (hap845 y hy).elim (fun hy => (fun y hy => (fun y hy => Or.inl hy) y (hsB844 y hy)) y hy) (fun h => Or.inr (Nat.le_trans s.size h))
     have s := s.trans e (fun y hy => (fun y hy => Or.inl hy) y (hsB844 y hy))
     refine wpList_nil ⟨s, ?_⟩
     refine oE h fun x847 hx848 h => dt k 9 rfl (by kernel_rfl) rfl s (fun _ _ _ => id) (fun w s => r_ixa (Enc.ow_rd hf581) hx763 k ts47 rfl rfl rfl) fun a k => d_one 10 (by kernel_rfl) rfl (s_stH1 (α := List Int) (sz := 1) (cs' := [v835]) sizeOf29 m 0 hH841 0 k (rd_c (Enc.ow_rd hf838)) (rd_o (Enc.ow_rd hf838)) rfl rfl rfl rfl rfl rfl rfl rfl rfl rfl fun w849 a k e m hH850 => ?_)
     obtain ⟨F851, m, hf852⟩ := (m.sel [0, 1, 2, 3, 4, 5] rfl (by decide)).cls hH850 hf838
     have s := s.trans e (fun y hy => (fun y hy => Or.inl hy) y (hsA843 y hy))
     refine wpList_nil ⟨s, ?_⟩
     refine d_done (by kernel_rfl) ?_
     have k := k.keep [2, 11, 12, 5, 13] rfl
     refine (nm_block (nm_then ?_))
     exact ⟨u575, setx out577 x738 x833, v578, F851, w849, k.keep [2, 5, 11, 12, 13] rfl, m.sel [3, 4, 0] rfl (by decide), hb576, hf852, h⟩
   refine wp_exit (ex_then (ex_then (ex_same (nm_then ?_))))
   refine wr (pN 2 k rfl fun a k => nn (wp_ret ?_))
   cases h
   exact finR1 k rfl (RV.tmp k rfl) ⟨_, F579, rfl, m.ext, (Enc.ow_agr hf581 (m.a 2 rfl)), (m.fresh 2 rfl)⟩
 exact ⟨w11, ([] : List (List Int)), (.slice (some ⟨g12, 0, none⟩) 0 0), [g12], w13, 0, k.keep [2, 5, 11, 12, 13] rfl, m.sel [2, 0, 1] rfl (by decide), hb10, hf16, h⟩
theorem c_impl_GroupsOf (fu : Nat) {w0 : World} (r1 : Request) {cs2 : List Value} {F3 : List Nat} (hp4 : rd w0 F3 cs2 r1) {r : (List (List Int))}
    (h : d_impl_GroupsOf fu r1 = some r) :
    Calls Tryz.prog 98 #[.agg cs2.toArray] w0 fun e w => ∃ (v0 : Value) (G0 : List Nat), e = .returned (v0) ∧ Ext [] w0 w ∧ ow w G0 [v0] r ∧ (∀ b ∈ G0, w0.heap.size ≤ b) := by
 refine enter (vs := [_]) func98 rfl ntmps98 rfl fun a k => ?_
 have m := St.start w0
 obtain ⟨v5, F6, v7, F8, v9, F10, rfl, rfl, hf11, hf12, hf13⟩ := hp4
 unfold d_impl_GroupsOf at h
 refine wr (s_box (cs := [.int .i64 r1.fWay, .int .i64 r1.fPallet.fW, .int .i64 r1.fPallet.fD, .int .i64 r1.fPallet.fH, .int .i64 r1.fPallet.fGram, .int .i64 r1.fClasses, v5, v7, .int .i64 r1.fMaster, v9]) m k rfl rfl rfl rfl rfl rfl fun b14 w16 a k m e hb15 => pN 1 k rfl fun a k => nn (wp_seq (wr (sv k rfl (r_ldB ta40 m 0 hb15 0 k rfl rfl rfl rfl rfl rfl) fun a k => oE h fun x17 hx18 h => cE k m call76 rfl rfl rfl (c_impl_sound fu _ (show rd _ _ [.int .i64 r1.fWay, .int .i64 r1.fPallet.fW, .int .i64 r1.fPallet.fD, .int .i64 r1.fPallet.fH, .int .i64 r1.fPallet.fGram, .int .i64 r1.fClasses, v5, v7, .int .i64 r1.fMaster, v9] (r1 : Request) from ⟨_, _, _, _, _, _, rfl, rfl, (Enc.rd_agr hf11 (m.a00 (Enc.rd_lt hf11))), (Enc.rd_agr hf12 (m.a00 (Enc.rd_lt hf12))), (Enc.rd_agr hf13 (m.a00 (Enc.rd_lt hf13)))⟩) hx18) fun w20 e a k m => ?_))))
 refine pN 1 k rfl fun a k => nn (cI h k rfl (fun hb21 h => ?_) fun hb21 h => ?_)
 · refine wr (pN 1 k rfl fun a k => nn (wp_ret (rt_then ?_)))
   cases h
   exact finR1 k rfl (RV.tmp k rfl) ⟨_, [], rfl, m.ext, (ow_nil _), (by simp)⟩
 refine wp_skip (nm_then ?_)
 refine wp_seq (d_go [] mixo m rfl fun w22 hMd => ?_)
 have m := hMd
 have s := Ext.refl ([] : List Nat) w22
 refine dt k 0 rfl (by kernel_rfl) rfl s (fun _ _ _ => id) (fun w s => r_fa fa40_3 k rfl rfl) fun a k => dt k 1 rfl (by kernel_rfl) rfl s (fun _ _ _ => id) (fun w s => r_ld1 t136 (r := []) (hb15.at ((hMd.step s).a 0 rfl) 6 1 rfl rfl rfl) k rfl rfl) fun a k => dt k 2 rfl (by kernel_rfl) rfl s (fun _ _ _ => id) (fun w s => r_ldA ta40 (hb15.at ((hMd.step s).a 0 rfl) 0 10 rfl rfl rfl) rfl k rfl rfl) fun a k => d_one 3 (by kernel_rfl) rfl (oE h fun x23 hx24 h => ?_)
 refine s_call k call150 rfl rfl rfl rfl rfl (c_impl_Present fu _ (show rd _ _ [.int .i64 r1.fWay, .int .i64 r1.fPallet.fW, .int .i64 r1.fPallet.fD, .int .i64 r1.fPallet.fH, .int .i64 r1.fPallet.fGram, .int .i64 r1.fClasses, v5, v7, .int .i64 r1.fMaster, v9] (r1 : Request) from ⟨_, _, _, _, _, _, rfl, rfl, (Enc.rd_agr hf11 (m.a00 (Enc.rd_lt hf11))), (Enc.rd_agr hf12 (m.a00 (Enc.rd_lt hf12))), (Enc.rd_agr hf13 (m.a00 (Enc.rd_lt hf13)))⟩) hx24) fun e25 w26 hR => ?_
 obtain ⟨v31, F27, rfl, e, hf28, hfr29⟩ := hR
 refine ⟨_, rfl, fun a k => ?_⟩
 have m := m.new e F27 (fun b hb => ⟨hfr29 b hb, Enc.rd_lt (Enc.ow_rd hf28) b hb⟩) (Enc.ow_nd hf28)
 have hlo32 := fun (y : Nat) (hy : y ∈ F27) => Nat.le_trans s.size (hfr29 y hy)
 have s := s.trans e (by simp)
 refine wpList_nil ⟨s, ?_⟩
 refine d_one 4 (by kernel_rfl) rfl (oE h fun x33 hx34 h => s_call k call149 rfl rfl rfl rfl rfl (c_impl_Groups fu _ _ (Enc.rd_agr hf11 (m.a00 (Enc.rd_lt hf11))) (Enc.rd_agr (Enc.ow_rd hf28) (m.a 0 rfl)) hx34) fun e35 w36 hR => ?_)
 obtain ⟨v41, F37, rfl, e, hf38, hfr39⟩ := hR
 refine ⟨_, rfl, fun a k => ?_⟩
 have m := m.new e F37 (fun b hb => ⟨hfr39 b hb, Enc.rd_lt (Enc.ow_rd hf38) b hb⟩) (Enc.ow_nd hf38)
 have hlo42 := fun (y : Nat) (hy : y ∈ F37) => Nat.le_trans s.size (hfr39 y hy)
 have s := s.trans e (by simp)
 refine wpList_nil ⟨s, ?_⟩
 refine dp k 5 rfl (by kernel_rfl) rfl s (fun _ _ _ => id) rfl fun a k => d_done (by kernel_rfl) ((nm_then ?_))
 refine wp_ret ?_
 cases h
 exact finR1 k rfl (RV.tmp k rfl) ⟨_, F37, rfl, m.ext, (Enc.ow_agr hf38 (m.a 0 rfl)), (m.fresh 0 rfl)⟩
theorem c_bits_Mul32 (fu : Nat) {w0 : World} (x1 : Int) (y2 : Int)  {r : Int × Int}
    (h : d_bits_Mul32 fu x1 y2 = some r) :
    Calls Tryz.prog 208 #[.int .u32 (x1), .int .u32 (y2)] w0 fun e w => e = .returned (.tuple #[.int .u32 (r.1), .int .u32 (r.2)]) ∧ Ext [] w0 w := by
 refine enter (vs := [_, _]) func208 rfl ntmps208 rfl fun a k => ?_
 have m := St.start w0
 unfold d_bits_Mul32 at h
 refine wr (pN 2 k rfl fun a k => nn (wr (pN 1 k rfl fun a k => sv k rfl (r_cv k underlying191 underlying194 rfl rfl) fun a k => pN 1 k rfl fun a k => sv k rfl (r_cv k underlying191 underlying194 rfl rfl) fun a k => pN 2 k rfl fun a k => nn (wr (pN 1 k rfl fun a k => sv k rfl (r_shr (y := 32) k rfl rfl rfl) fun a k => sv k rfl (r_cv k underlying194 underlying191 rfl rfl) fun a k => pN 1 k rfl fun a k => sv k rfl (r_cv k underlying194 underlying191 rfl rfl) fun a k => pN 2 k rfl fun a k => nn (wp_ret ?_))))))
 cases h
 exact finR2 k rfl (RV.tmp k rfl) (RV.tmp k rfl) ⟨rfl, m.ext⟩
theorem c_bits_Mul64 (fu : Nat) {w0 : World} (x1 : Int) (y2 : Int)  {r : Int × Int}
    (h : d_bits_Mul64 fu x1 y2 = some r) :
    Calls Tryz.prog 209 #[.int .u64 (x1), .int .u64 (y2)] w0 fun e w => e = .returned (.tuple #[.int .u64 (r.1), .int .u64 (r.2)]) ∧ Ext [] w0 w := by
 refine enter (vs := [_, _]) func209 rfl ntmps209 rfl fun a k => ?_
 have m := St.start w0
 unfold d_bits_Mul64 at h
 refine wr (pN 2 k rfl fun a k => nn (wr (pN 3 k rfl fun a k => nn (wr (pN 1 k rfl fun a k => sv k rfl (r_shr (y := 32) k rfl rfl rfl) fun a k => pN 1 k rfl fun a k => nn (wr (pN 3 k rfl fun a k => nn (wr (pN 1 k rfl fun a k => sv k rfl (r_shr (y := 32) k rfl rfl rfl) fun a k => pN 1 k rfl fun a k => nn (wr (pN 4 k rfl fun a k => nn (wr (pN 4 k rfl fun a k => sv k rfl (r_shr (y := 32) k rfl rfl rfl) fun a k => pN 2 k rfl fun a k => ?_)))))))))))))
 have k := k.keep [0, 1, 6, 7, 9, 11] rfl
 refine nn (wr (pN 3 k rfl fun a k => nn (wr (pN 1 k rfl fun a k => sv k rfl (r_shr (y := 32) k rfl rfl rfl) fun a k => pN 1 k rfl fun a k => nn (wr (pN 6 k rfl fun a k => nn (wr (pN 6 k rfl fun a k => sv k rfl (r_shr (y := 32) k rfl rfl rfl) fun a k => pN 2 k rfl fun a k => ?_))))))))
 have k := k.keep [0, 1, 4] rfl
 refine nn (wr (pN 4 k rfl fun a k => nn (wp_ret ?_)))
 cases h
 exact finR2 k rfl (RV.tmp k rfl) (RV.tmp k rfl) ⟨rfl, m.ext⟩
theorem c_bits_Mul (fu : Nat) {w0 : World} (x1 : Int) (y2 : Int)  {r : Int × Int}
    (h : d_bits_Mul fu x1 y2 = some r) :
    Calls Tryz.prog 186 #[.int .u64 (x1), .int .u64 (y2)] w0 fun e w => e = .returned (.tuple #[.int .u64 (r.1), .int .u64 (r.2)]) ∧ Ext [] w0 w := by
 refine enter (vs := [_, _]) func186 rfl ntmps186 rfl fun a k => ?_
 have m := St.start w0
 unfold d_bits_Mul at h
 refine wr (pN 2 k rfl fun a k => nn (wp_seq (wp_cond_false (k.ev rfl) (wp_skip (nm_then ?_)))))
 refine wr (pN 2 k rfl fun a k => oE h fun x3 hx4 h => cE k m call209 rfl rfl rfl (c_bits_Mul64 fu _ _  hx4) fun w6 e a k m => pN 5 k rfl fun a k => nn (wr (pN 4 k rfl fun a k => nn (wp_ret ?_))))
 cases h
 exact finR2 k rfl (RV.tmp k rfl) (RV.tmp k rfl) ⟨rfl, m.ext⟩
theorem c_slices_Repeat_int_int (fu : Nat) {w0 : World} (x1 : List Int) (count5 : Int) {v2 : Value} {F3 : List Nat} (hp4 : rd w0 F3 [v2] x1) {r : (List Int)}
    (h : d_slices_Repeat_int_int fu x1 count5 = some r) :
    Calls Tryz.prog 147 #[v2, .int .i64 count5] w0 fun e w => ∃ (v0 : Value) (G0 : List Nat), e = .returned (v0) ∧ Ext [] w0 w ∧ ow w G0 [v0] r ∧ (∀ b ∈ G0, w0.heap.size ≤ b) := by
 refine enter (vs := [_, _]) func147 rfl ntmps147 rfl fun a k => ?_
 have m := St.start w0
 unfold d_slices_Repeat_int_int at h
 refine wr (pN 1 k rfl fun a k => nn (c_cut (fun a w => K 48 [(0, v2), (1, .int .i64 count5)] a ∧ St [] w0 w [] ∧ d_slices_Repeat_int_int_J2 fu x1 count5 = some r) ?_ ?_))
 · rintro a w7 ⟨k, m, h⟩
   unfold d_slices_Repeat_int_int_J2 at h
   refine wr (pN 1 k rfl fun a k => sv k rfl (r_len (α := Int) hp4 k underlying29 rfl rfl) fun a k => sv k rfl (r_cv k underlying3 underlying181 rfl rfl) fun a k => pN 1 k rfl fun a k => sv k rfl (r_cv k underlying3 underlying181 rfl rfl) fun a k => oE h fun x8 hx9 h => cE k m call186 rfl rfl rfl (c_bits_Mul fu _ _  hx9) fun w11 e a k m => pN 5 k rfl fun a k => nn (c_cut (fun a w => K 48 [(0, v2), (6, .int .u64 (x8.2))] a ∧ St [] w0 w [] ∧ d_slices_Repeat_int_int_J1 fu x1 x8 = some r) ?_ ?_))
   · rintro a w14 ⟨k, m, h⟩
     unfold d_slices_Repeat_int_int_J1 at h
     refine wr (pN 1 k rfl fun a k => sv k rfl (r_cv k underlying181 underlying3 rfl rfl) fun a k => oE h fun x15 hx16 h => s_mk hx16 te29 rfl rfl m k rfl rfl rfl rfl rfl rfl fun g17 w18 a v20 k m e hf19 => pN 1 k rfl fun a k => nn (wr (pN 2 k rfl fun a k => s_cp (lo := 0) te29 m 0 hf19 (Part.self _) (Enc.rd_agr hp4 (m.a00 (Enc.rd_lt hp4))) k rfl rfl rfl rfl rfl rfl rfl fun w21 a k e m hf22 => pN 1 k rfl fun a k => nn (wp_seq (wp_block (c_loop (fun n a w => ∃ (newslice64 : List Int) (v65 : Value) (F66 : List Nat) (u67 : World) (n69 : Int), K 48 [(7, v65), (8, .int .i64 n69)] a ∧ St [] w0 w [(F66, u67)] ∧ ow u67 F66 [v65] newslice64 ∧ d_slices_Repeat_int_int_L1 fu  n newslice64 n69 = some r) ?_ ?_ fu _ _ ?_))))))
     · rintro a w ⟨_, _, _, _, _, _, _, _, h⟩
       exact nS h
     · rintro m70 a w63 ⟨newslice64, v65, F66, u67, n69, k, m, hf68, h⟩
       rw [d_slices_Repeat_int_int_L1_s] at h
       unfold d_slices_Repeat_int_int_L1_B at h
       refine wp_seq (wr (pN 2 k rfl fun a k => sv k rfl (r_len (α := Int) (Enc.ow_rd hf68) k underlying29 rfl rfl) fun a k => pN 1 k rfl fun a k => nn (cI h k rfl (fun hb71 h => ?_) fun hb71 h => ?_)))
       · refine wp_skip (nm_then ?_)
         refine wp_block (d_go (F66) mixo m rfl fun w72 hMd => ?_)
         have m := hMd
         have s := Ext.refl ((F66) : List Nat) w72
         refine dp k 0 rfl (by kernel_rfl) rfl s (fun _ _ _ => id) rfl fun a k => dp k 1 rfl (by kernel_rfl) rfl s (fun _ _ _ => id) rfl fun a k => dp k 2 rfl (by kernel_rfl) rfl s (fun _ _ _ => id) rfl fun a k => oE h fun x73 hx74 h => ?_
         obtain ⟨v75, hf76, hP77, hrn78⟩ := sl_from (Enc.ow_rd hf68) hx74 ts29
         refine dt k 3 rfl (by kernel_rfl) rfl s (fun _ _ _ => id) (fun w s => hrn78 k rfl rfl rfl _) fun a k => dp k 4 rfl (by kernel_rfl) rfl s (fun _ _ _ => id) rfl fun a k => dp k 5 rfl (by kernel_rfl) rfl s (fun _ _ _ => id) rfl fun a k => oE h fun x79 hx80 h => ?_
         obtain ⟨v81, hf82, hrn84⟩ := sl_to (Enc.ow_rd hf68) hx80 ts29
         refine dt k 6 rfl (by kernel_rfl) rfl s (fun _ _ _ => id) (fun w s => hrn84 k rfl rfl rfl _) fun a k => d_one 7 (by kernel_rfl) rfl (s_cp (lo := n69) te29 m 0 hf68 hP77 (Enc.rd_agr hf82 (m.a 0 rfl)) k rfl rfl rfl rfl rfl rfl rfl fun w85 a k e m hf86 => ?_)
         have s := s.trans e (fun y hy => Or.inl hy)
         refine wpList_nil ⟨s, ?_⟩
         refine dp k 8 rfl (by kernel_rfl) rfl s (fun _ _ _ => id) rfl fun a k => dp k 9 rfl (by kernel_rfl) rfl s (fun _ _ _ => id) rfl fun a k => d_done (by kernel_rfl) ((nm_block (nm_then ?_)))
         exact ⟨cpd newslice64 n69 x79, v65, F66, w85, w64 (n69 + (cpn newslice64 n69 x79)), k.keep [7, 8] rfl, m.sel [0] rfl (by decide), hf86, h⟩
       refine wp_exit (ex_then (ex_then (ex_same (nm_then ?_))))
       refine wr (pN 2 k rfl fun a k => nn (wp_ret ?_))
       cases h
       exact finR1 k rfl (RV.tmp k rfl) ⟨_, F66, rfl, m.ext, (Enc.ow_agr hf68 (m.a 0 rfl)), (m.fresh 0 rfl)⟩
     exact ⟨cpd x15 0 x1, v20, [g17], w21, cpn x15 0 x1, k.keep [7, 8] rfl, m.sel [0] rfl (by decide), hf22, h⟩
   refine wr (pN 3 k rfl fun a k => bsplit (decide (x8.1 > 0)) (fun hb87 => ?_) (fun hb87 => ?_))
   · have h := bif_t hb87 h
     refine rB k 23 rfl hb87 fun k => pN 3 k rfl fun a k => nn (wp_cond_true (k.ev rfl) ?_)
     exact nS h
   have h := bif_f hb87 h
   refine rB k 23 rfl hb87 fun k => pN 3 k rfl fun a k => nn (cI h k rfl (fun hb88 h => ?_) fun hb88 h => ?_)
   · exact nS h
   refine wp_skip (nm_then ?_)
   exact ⟨k.keep [0, 6] rfl, m.sel [] rfl (by decide), h⟩
 refine wr (pN 2 k rfl fun a k => nn (cI h k rfl (fun hb89 h => ?_) fun hb89 h => ?_))
 · exact nS h
 refine wp_skip (nm_then ?_)
 exact ⟨k.keep [0, 1] rfl, m.sel [] rfl (by decide), h⟩
theorem c_impl_Units (fu : Nat) {w0 : World} (r1 : Request) {cs2 : List Value} {F3 : List Nat} (hp4 : rd w0 F3 cs2 r1) {r : (List Int)}
    (h : d_impl_Units fu r1 = some r) :
    Calls Tryz.prog 84 #[.agg cs2.toArray] w0 fun e w => ∃ (v0 : Value) (G0 : List Nat), e = .returned (v0) ∧ Ext [] w0 w ∧ ow w G0 [v0] r ∧ (∀ b ∈ G0, w0.heap.size ≤ b) := by
 refine enter (vs := [_]) func84 rfl ntmps84 rfl fun a k => ?_
 have m := St.start w0
 obtain ⟨v5, F6, v7, F8, v9, F10, rfl, rfl, hf11, hf12, hf13⟩ := hp4
 unfold d_impl_Units at h
 refine wr (s_box (cs := [.int .i64 r1.fWay, .int .i64 r1.fPallet.fW, .int .i64 r1.fPallet.fD, .int .i64 r1.fPallet.fH, .int .i64 r1.fPallet.fGram, .int .i64 r1.fClasses, v5, v7, .int .i64 r1.fMaster, v9]) m k rfl rfl rfl rfl rfl rfl fun b14 w16 a k m e hb15 => pN 1 k rfl fun a k => nn (wp_seq (wr (sv k rfl (r_ldB ta40 m 0 hb15 0 k rfl rfl rfl rfl rfl rfl) fun a k => oE h fun x17 hx18 h => cE k m call76 rfl rfl rfl (c_impl_sound fu _ (show rd _ _ [.int .i64 r1.fWay, .int .i64 r1.fPallet.fW, .int .i64 r1.fPallet.fD, .int .i64 r1.fPallet.fH, .int .i64 r1.fPallet.fGram, .int .i64 r1.fClasses, v5, v7, .int .i64 r1.fMaster, v9] (r1 : Request) from ⟨_, _, _, _, _, _, rfl, rfl, (Enc.rd_agr hf11 (m.a00 (Enc.rd_lt hf11))), (Enc.rd_agr hf12 (m.a00 (Enc.rd_lt hf12))), (Enc.rd_agr hf13 (m.a00 (Enc.rd_lt hf13)))⟩) hx18) fun w20 e a k m => ?_))))
 refine pN 1 k rfl fun a k => nn (cI h k rfl (fun hb21 h => ?_) fun hb21 h => ?_)
 · refine wr (pN 1 k rfl fun a k => nn (wp_ret (rt_then ?_)))
   cases h
   exact finR1 k rfl (RV.tmp k rfl) ⟨_, [], rfl, m.ext, (ow_nil _), (by simp)⟩
 refine wp_skip (nm_then ?_)
 refine wr (s_bs (cs := []) (ps := []) te29 m k rfl rfl rfl rfl rfl rfl rfl (by decide) rfl (by exact (List.forall_mem_nil _)) fun g22 w23 e25 a k m e hb24 => ?_)
 have hf26 := ow_bx hb24 ([] : List Int) rfl rfl rfl
 refine pN 1 k rfl fun a k => nn (wp_seq (wr (sv k rfl (r_fa fa40_6 k rfl rfl) fun a k => sv k rfl (r_ldb t138 m 1 hb15 9 k rfl rfl rfl rfl rfl) fun a k => sv k rfl (r_len (α := Item) hf13 k underlying38 rfl rfl) fun a k => pN 1 k rfl fun a k => nn (wp_block (c_loop (fun n a w => ∃ (out92 : List Int) (v93 : Value) (F94 : List Nat) (u95 : World) (x97 : Int), K 27 [(3, v93), (11, v9), (12, .int .i64 ((r1.fItems.length : Int))), (13, .int .i64 x97)] a ∧ St [] w0 w [(F94, u95)] ∧ ow u95 F94 [v93] out92 ∧ d_impl_Units_L1 fu r1 n out92 x97 = some r) ?_ ?_ fu _ _ ?_)))))
 · rintro a w ⟨_, _, _, _, _, _, _, _, h⟩
   exact nS h
 · rintro m98 a w91 ⟨out92, v93, F94, u95, x97, k, m, hf96, h⟩
   rw [d_impl_Units_L1_s] at h
   unfold d_impl_Units_L1_B at h
   refine wr (pN 1 k rfl fun a k => nn (wp_seq (cI h k rfl (fun hb99 h => ?_) fun hb99 h => ?_)))
   · refine wp_skip (nm_then ?_)
     refine wp_seq (wp_block (wr (pN 1 k rfl fun a k => oE h fun x100 hx101 h => sv k rfl (r_ixa hf13 hx101 k ts38 rfl rfl rfl) fun a k => sv k rfl (r_lde hf13 (m.a00 (Enc.rd_lt hf13)) hx101 ta120 k rfl rfl) fun a k => s_alloc (cs := [.int .i64 0, .int .i64 0, .int .i64 0, .int .i64 0, .int .i64 0, .int .i64 0, .int .i64 0]) m k zeroValue120 rfl rfl rfl rfl rfl fun b102 w104 a k m e hb103 => pN 1 k rfl fun a k => s_stb (cs' := [.int .i64 x100.fId, .int .i64 x100.fW, .int .i64 x100.fH, .int .i64 x100.fD, .int .i64 x100.fGram, .int .i64 x100.fClass, .int .i64 x100.fCount]) sizeOf120 m 0 hb103 0 k rfl rfl rfl rfl rfl rfl rfl rfl rfl rfl rfl fun w105 a k e m hb106 => nn (wp_region_lit (pN 2 k rfl fun a k => ?_)))))
     refine s_bs (cs := [.int .i64 x97]) (ps := [(0, .tmp 19)]) te29 m k rfl rfl rfl rfl rfl rfl rfl (by decide) rfl (by exact (List.forall_mem_cons.2 ⟨rfl, (List.forall_mem_nil _)⟩)) fun g107 w108 e110 a k m e hb109 => ?_
     have hf111 := ow_bx hb109 ([x97] : List Int) rfl rfl rfl
     refine sv k rfl (r_fa fa120_6 k rfl rfl) fun a k => sv k rfl (r_ldb t13 m 1 hb106 6 k rfl rfl rfl rfl rfl) fun a k => oE h fun x112 hx113 h => s_call k call147 rfl rfl rfl rfl rfl (c_slices_Repeat_int_int fu _ _ (Enc.rd_agr (Enc.ow_rd hf111) (m.a 0 rfl)) hx113) fun e114 w115 hR => ?_
     obtain ⟨v120, F116, rfl, e, hf117, hfr118⟩ := hR
     refine ⟨_, rfl, fun a k => ?_⟩
     have m := m.new e F116 (fun b hb => ⟨hfr118 b hb, Enc.rd_lt (Enc.ow_rd hf117) b hb⟩) (Enc.ow_nd hf117)
     refine oE h fun x121 hx122 h => s_appF hx122 te29 rfl m 3 hf96 (News.rd (Enc.rd_agr (Enc.ow_rd hf117) (m.a 0 rfl))) rfl rfl k rfl rfl rfl rfl rfl rfl rfl fun v123 F124 w125 a k e m hf126 => pN 1 k rfl fun a k => wpList_nil (nm_block (nm_then ?_))
     refine wp_region_lit (pN 2 k rfl fun a k => nn ?_)
     exact ⟨x121, v123, F124, w125, w64 (x97 + 1), k.keep [3, 11, 12, 13] rfl, m.sel [3] rfl (by decide), hf126, h⟩
   refine wp_exit (ex_then (ex_then (ex_same (nm_then ?_))))
   refine wr (pN 2 k rfl fun a k => nn (wp_ret ?_))
   cases h
   exact finR1 k rfl (RV.tmp k rfl) ⟨_, F94, rfl, m.ext, (Enc.ow_agr hf96 (m.a 0 rfl)), (m.fresh 0 rfl)⟩
 exact ⟨([] : List Int), (.slice (some ⟨g22, 0, none⟩) 0 0), [g22], w23, 0, k.keep [3, 11, 12, 13] rfl, m.sel [0] rfl (by decide), hf26, h⟩
theorem c_impl_itemsOf (fu : Nat) {w0 : World} (r1 : Request) (units5 : List Int) {cs2 : List Value} {F3 : List Nat} (hp4 : rd w0 F3 cs2 r1) {v6 : Value} {F7 : List Nat} (hp8 : rd w0 F7 [v6] units5) {r : (List Item)}
    (h : d_impl_itemsOf fu r1 units5 = some r) :
    Calls Tryz.prog 143 #[.agg cs2.toArray, v6] w0 fun e w => ∃ (v0 : Value) (G0 : List Nat), e = .returned (v0) ∧ Ext [] w0 w ∧ ow w G0 [v0] r ∧ (∀ b ∈ G0, w0.heap.size ≤ b) := by
 refine enter (vs := [_, _]) func143 rfl ntmps143 rfl fun a k => ?_
 have m := St.start w0
 obtain ⟨v9, F10, v11, F12, v13, F14, rfl, rfl, hf15, hf16, hf17⟩ := hp4
 unfold d_impl_itemsOf at h
 refine wr (s_box (cs := [.int .i64 r1.fWay, .int .i64 r1.fPallet.fW, .int .i64 r1.fPallet.fD, .int .i64 r1.fPallet.fH, .int .i64 r1.fPallet.fGram, .int .i64 r1.fClasses, v9, v11, .int .i64 r1.fMaster, v13]) m k rfl rfl rfl rfl rfl rfl fun b18 w20 a k m e hb19 => pN 1 k rfl fun a k => nn (wr (sv k rfl (r_ldB ta40 m 0 hb19 0 k rfl rfl rfl rfl rfl rfl) fun a k => oE h fun x21 hx22 h => ?_)))
 refine s_call k call84 rfl rfl rfl rfl rfl (c_impl_Units fu _ (show rd _ _ [.int .i64 r1.fWay, .int .i64 r1.fPallet.fW, .int .i64 r1.fPallet.fD, .int .i64 r1.fPallet.fH, .int .i64 r1.fPallet.fGram, .int .i64 r1.fClasses, v9, v11, .int .i64 r1.fMaster, v13] (r1 : Request) from ⟨_, _, _, _, _, _, rfl, rfl, (Enc.rd_agr hf15 (m.a00 (Enc.rd_lt hf15))), (Enc.rd_agr hf16 (m.a00 (Enc.rd_lt hf16))), (Enc.rd_agr hf17 (m.a00 (Enc.rd_lt hf17)))⟩) hx22) fun e23 w24 hR => ?_
 obtain ⟨v29, F25, rfl, e, hf26, hfr27⟩ := hR
 refine ⟨_, rfl, fun a k => ?_⟩
 have m := m.new e F25 (fun b hb => ⟨hfr27 b hb, Enc.rd_lt (Enc.ow_rd hf26) b hb⟩) (Enc.ow_nd hf26)
 refine pN 1 k rfl fun a k => nn (wr (s_bs (cs := []) (ps := []) te38 m k rfl rfl rfl rfl rfl rfl rfl (by decide) rfl (by exact (List.forall_mem_nil _)) fun g30 w31 e33 a k m e hb32 => ?_))
 have hf34 := ow_bx hb32 ([] : List Item) rfl rfl rfl
 refine pN 1 k rfl fun a k => nn (wp_seq (wr (pN 1 k rfl fun a k => sv k rfl (r_len (α := Int) hp8 k underlying29 rfl rfl) fun a k => pN 1 k rfl fun a k => nn (wp_block (c_loop (fun n a w => ∃ (out166 : List Item) (v167 : Value) (F168 : List Nat) (u169 : World) (x171 : Int), K 36 [(2, .pointer (some (⟨b18, 0, none⟩ : Addr))), (5, v29), (6, v167), (12, v6), (13, .int .i64 ((units5.length : Int))), (14, .int .i64 x171)] a ∧ St [] w0 w [([b18], w20), (F25, w24), (F168, u169)] ∧ ow u169 F168 [v167] out166 ∧ d_impl_itemsOf_L1 fu r1 units5 x21 n out166 x171 = some r) ?_ ?_ fu _ _ ?_)))))
 · rintro a w ⟨_, _, _, _, _, _, _, _, h⟩
   exact nS h
 · rintro m172 a w165 ⟨out166, v167, F168, u169, x171, k, m, hf170, h⟩
   rw [d_impl_itemsOf_L1_s] at h
   unfold d_impl_itemsOf_L1_B at h
   refine wr (pN 1 k rfl fun a k => nn (wp_seq (cI h k rfl (fun hb173 h => ?_) fun hb173 h => ?_)))
   · refine wp_skip (nm_then ?_)
     refine c_cut (fun a w => ∃ (out202 : List Item) (v203 : Value) (F204 : List Nat) (u205 : World), K 36 [(2, .pointer (some (⟨b18, 0, none⟩ : Addr))), (5, v29), (6, v203), (12, v6), (13, .int .i64 ((units5.length : Int))), (14, .int .i64 x171)] a ∧ St [] w0 w [([b18], w20), (F25, w24), (F204, u205)] ∧ ow u205 F204 [v203] out202 ∧ d_impl_itemsOf_J1 fu (d_impl_itemsOf_L1 fu r1 units5 x21 m172) x171 out202 = some r) ?_ ?_
     · rintro a w201 ⟨out202, v203, F204, u205, k, m, hf206, h⟩
       unfold d_impl_itemsOf_J1 at h
       refine wp_region_lit (pN 2 k rfl fun a k => nn ?_)
       exact ⟨out202, v203, F204, u205, w64 (x171 + 1), k.keep [2, 5, 6, 12, 13, 14] rfl, m.sel [0, 1, 2] rfl (by decide), hf206, h⟩
     refine wp_block (wr (oE h fun x207 hx208 h => sv k rfl (r_ixa hp8 hx208 k ts29 rfl rfl rfl) fun a k => sv k rfl (r_lde1 hp8 (m.a00 (Enc.rd_lt hp8)) hx208 0 t13 k rfl rfl rfl rfl) fun a k => pN 1 k rfl fun a k => nn (wr (pN 2 k rfl fun a k => sv k rfl (r_len (α := Int) (Enc.ow_rd hf26) k underlying29 rfl rfl) fun a k => pN 1 k rfl fun a k => oE h fun x209 hx210 h => cE k m call99 rfl rfl rfl (c_impl_in fu _ _ _  hx210) fun w212 e a k m => nn (cI h k rfl (fun hb213 h => ?_) fun hb213 h => ?_)))))
     · refine d_go (F168) mixo m rfl fun w214 hMd => ?_
       have m := hMd
       have s := Ext.refl ((F168) : List Nat) w214
       refine dp k 0 rfl (by kernel_rfl) rfl s (fun _ _ _ => id) rfl fun a k => dt k 1 rfl (by kernel_rfl) rfl s (fun _ _ _ => id) (fun w s => r_fa fa40_6 k rfl rfl) fun a k => dt k 2 rfl (by kernel_rfl) rfl s (fun _ _ _ => id) (fun w s => r_ld1 t138 (r := []) (hb19.at (hMd.az 0 2 rfl rfl rfl s) 9 1 rfl rfl rfl) k rfl rfl) fun a k => dp k 3 rfl (by kernel_rfl) rfl s (fun _ _ _ => id) rfl fun a k => dp k 4 rfl (by kernel_rfl) rfl s (fun _ _ _ => id) rfl fun a k => oE h fun x215 hx216 h => dt k 5 rfl (by kernel_rfl) rfl s (fun _ _ _ => id) (fun w s => r_ixa (Enc.ow_rd hf26) hx216 k ts29 rfl rfl rfl) fun a k => dt k 6 rfl (by kernel_rfl) rfl s (fun _ _ _ => id) (fun w s => r_lde1 (Enc.ow_rd hf26) (hMd.az 1 2 rfl rfl rfl s) hx216 0 t13 k rfl rfl rfl rfl) fun a k => oE h fun x217 hx218 h => ?_
       refine dt k 7 rfl (by kernel_rfl) rfl s (fun _ _ _ => id) (fun w s => r_ixa hf17 hx218 k ts38 rfl rfl rfl) fun a k => dt k 8 rfl (by kernel_rfl) rfl s (fun _ _ _ => id) (fun w s => r_lde hf17 (hMd.az0 2 rfl rfl (Enc.rd_lt hf17) s) hx218 ta120 k rfl rfl) fun a k => d_one 9 (by kernel_rfl) rfl (s_bsN (cs := [.int .i64 x217.fId, .int .i64 x217.fW, .int .i64 x217.fH, .int .i64 x217.fD, .int .i64 x217.fGram, .int .i64 x217.fClass, .int .i64 x217.fCount]) (ps := [(0, .tmp 31)]) te38 m k rfl rfl rfl rfl rfl rfl rfl (by decide) rfl (by exact (List.forall_mem_cons.2 ⟨rfl, (List.forall_mem_nil _)⟩)) fun g219 w220 e222 a k m e hb221 hgn223 => ?_)
       have hlo225 := lo1 (Nat.le_trans s.size hgn223)
       have hf224 := ow_bx hb221 ([x217] : List Item) rfl rfl rfl
       have s := s.trans e (by simp)
       refine wpList_nil ⟨s, ?_⟩
       refine d_one 10 (by kernel_rfl) rfl (oE h fun x226 hx227 h => s_appFN hx227 te38 rfl m 3 hf170 (News.rd (Enc.rd_agr (Enc.ow_rd hf224) (m.a 0 rfl))) rfl rfl k rfl rfl rfl rfl rfl rfl rfl fun v228 F229 w230 a k e m hf231 hap232 => ?_)
       have hlo233 : ∀ y ∈ F229, y ∈ (F168) ∨ _ ≤ y := fun y hy => (hap232 y hy).elim (fun hy => (fun y hy => Or.inl hy) y hy) (fun h => Or.inr (Nat.le_trans s.size h))
       have s := s.trans e (fun y hy => Or.inl hy)
       refine wpList_nil ⟨s, ?_⟩
       refine dp k 11 rfl (by kernel_rfl) rfl s (fun _ _ _ => id) rfl fun a k => d_done (by kernel_rfl) ((nm_block (nm_then ?_)))
       exact ⟨x226, v228, F229, w230, k.keep [2, 5, 6, 12, 13, 14] rfl, m.sel [1, 2, 3] rfl (by decide), hf231, h⟩
     refine wp_skip (nm_block (nm_then ?_))
     exact ⟨out166, v167, F168, u169, k.keep [2, 5, 6, 12, 13, 14] rfl, m.sel [0, 1, 2] rfl (by decide), hf170, h⟩
   refine wp_exit (ex_then (ex_then (ex_same (nm_then ?_))))
   refine wr (pN 2 k rfl fun a k => nn (wp_ret ?_))
   cases h
   exact finR1 k rfl (RV.tmp k rfl) ⟨_, F168, rfl, m.ext, (Enc.ow_agr hf170 (m.a 2 rfl)), (m.fresh 2 rfl)⟩
 exact ⟨([] : List Item), (.slice (some ⟨g30, 0, none⟩) 0 0), [g30], w31, 0, k.keep [2, 5, 6, 12, 13, 14] rfl, m.sel [2, 1, 0] rfl (by decide), hf34, h⟩
theorem c_slices_Index_int_int (fu : Nat) {w0 : World} (sv1 : List Int) (v5 : Int) {v2 : Value} {F3 : List Nat} (hp4 : rd w0 F3 [v2] sv1) {r : Int}
    (h : d_slices_Index_int_int fu sv1 v5 = some r) :
    Calls Tryz.prog 168 #[v2, .int .i64 v5] w0 fun e w => e = .returned (.int .i64 r) ∧ Ext [] w0 w := by
 refine enter (vs := [_, _]) func168 rfl ntmps168 rfl fun a k => ?_
 have m := St.start w0
 unfold d_slices_Index_int_int at h
 refine wr (pN 1 k rfl fun a k => nn (wp_seq (wr (pN 1 k rfl fun a k => sv k rfl (r_len (α := Int) hp4 k underlying29 rfl rfl) fun a k => pN 1 k rfl fun a k => nn (wp_block (c_loop (fun n a w => ∃ (x18 : Int), K 19 [(0, v2), (1, .int .i64 v5), (7, .int .i64 ((sv1.length : Int))), (8, .int .i64 x18)] a ∧ St [] w0 w [] ∧ d_slices_Index_int_int_L1 fu sv1 v5 n x18 = some r) ?_ ?_ fu _ _ ?_))))))
 · rintro a w ⟨_, _, _, h⟩
   exact nS h
 · rintro m19 a w17 ⟨x18, k, m, h⟩
   rw [d_slices_Index_int_int_L1_s] at h
   unfold d_slices_Index_int_int_L1_B at h
   refine wr (pN 1 k rfl fun a k => nn (wp_seq (cI h k rfl (fun hb20 h => ?_) fun hb20 h => ?_)))
   · refine wp_skip (nm_then ?_)
     refine wp_seq (wp_block (wr (pN 2 k rfl fun a k => nn (wr (pN 3 k rfl fun a k => oE h fun x21 hx22 h => sv k rfl (r_ixa hp4 hx22 k ts29 rfl rfl rfl) fun a k => sv k rfl (r_lde1 hp4 (m.a00 (Enc.rd_lt hp4)) hx22 0 t13 k rfl rfl rfl rfl) fun a k => pN 1 k rfl fun a k => nn (cI h k rfl (fun hb23 h => ?_) fun hb23 h => ?_))))))
     · refine wr (pN 2 k rfl fun a k => nn (wp_ret (rt_block (rt_then (rt_then (rt_block (rt_then ?_)))))))
       refine fS h k m rfl rfl
     refine wp_skip (nm_block (nm_then ?_))
     refine wp_region_lit (pN 2 k rfl fun a k => nn ?_)
     exact ⟨w64 (x18 + 1), k.keep [0, 1, 7, 8] rfl, m.sel [] rfl (by decide), h⟩
   refine wp_exit (ex_then (ex_then (ex_same (nm_then ?_))))
   refine wr (pN 1 k rfl fun a k => nn (wp_ret (fS h k m rfl rfl)))
 exact ⟨0, k.keep [0, 1, 7, 8] rfl, m.sel [] rfl (by decide), h⟩
theorem c_slices_Contains_int_int (fu : Nat) {w0 : World} (sv1 : List Int) (v5 : Int) {v2 : Value} {F3 : List Nat} (hp4 : rd w0 F3 [v2] sv1) {r : Bool}
    (h : d_slices_Contains_int_int fu sv1 v5 = some r) :
    Calls Tryz.prog 127 #[v2, .int .i64 v5] w0 fun e w => e = .returned (.bool (r)) ∧ Ext [] w0 w := by
 refine enter (vs := [_, _]) func127 rfl ntmps127 rfl fun a k => ?_
 have m := St.start w0
 unfold d_slices_Contains_int_int at h
 refine wr (pN 1 k rfl fun a k => nn (wr (pN 2 k rfl fun a k => oE h fun x6 hx7 h => cE k m call168 rfl rfl rfl (c_slices_Index_int_int fu _ _ (Enc.rd_agr hp4 (m.a00 (Enc.rd_lt hp4))) hx7) fun w9 e a k m => pN 2 k rfl fun a k => nn (wp_ret (fS h k m rfl rfl)))))
theorem c_impl_hasOf_1 (fu : Nat) {w0 : World} (x1 : Item) (x2 : List Int) {v5 : Value} {F6 : List Nat} {b3 : Nat} (hp4 : bx w0 b3 [v5] 29) (hp7 : rd w0 F6 [v5] x2) {r : Bool}
    (h : d_impl_hasOf_1 fu x1 x2 = some r) :
    Calls Tryz.prog 152 #[.agg (Flat.e (x1)).toArray, .pointer (some (⟨b3, 0, none⟩ : Addr))] w0 fun e w => e = .returned (.bool (r)) ∧ Ext [] w0 w := by
 refine enter (vs := [_, _]) func152 rfl ntmps152 rfl fun a k => ?_
 have m := St.start w0
 unfold d_impl_hasOf_1 at h
 refine wr (s_box (cs := [.int .i64 x1.fId, .int .i64 x1.fW, .int .i64 x1.fH, .int .i64 x1.fD, .int .i64 x1.fGram, .int .i64 x1.fClass, .int .i64 x1.fCount]) m k rfl rfl rfl rfl rfl rfl fun b8 w10 a k m e hb9 => pN 1 k rfl fun a k => nn (wr (sv k rfl (r_ld1 t129 (r := []) (hp4.at (m.a00 hp4.lt1) 0 1 rfl rfl rfl) k rfl rfl) fun a k => sv k rfl (r_fa fa120_5 k rfl rfl) fun a k => sv k rfl (r_ldb t13 m 0 hb9 5 k rfl rfl rfl rfl rfl) fun a k => oE h fun x11 hx12 h => cE k m call127 rfl rfl rfl (c_slices_Contains_int_int fu _ _ (Enc.rd_agr hp7 (m.a00 (Enc.rd_lt hp7))) hx12) fun w14 e a k m => pN 1 k rfl fun a k => nn (wp_ret (fS h k m rfl rfl)))))

end Go.Proofs.YthjbcfefkdbgoaaGreat
