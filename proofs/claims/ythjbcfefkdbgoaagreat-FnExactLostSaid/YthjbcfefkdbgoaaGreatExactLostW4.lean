/- FnExactLost: the walks of functions that the law reaches, part 4. Printed by gen.py. -/
import Derived.Test.YthjbcfefkdbgoaaGreatExactLostW3
set_option maxRecDepth 20000
set_option linter.unusedSimpArgs false
set_option linter.unusedVariables false
namespace Go.Proofs.YthjbcfefkdbgoaaGreat
open Go Go.RowKit
open Enc (rd ow)
open Arg (argv)
open Ret (retv)
open Go.Proofs.Tryz



def d_impl_Class_1 (fu : Nat) (x1 : Item) (x2 : Typ) : Option (Bool) :=
  obind (d_impl_Fits fu x1 x2) fun x8 => some (!x8)

def d_impl_Class_2 (fu : Nat) (t1 : Typ) (x2 : Pallet) : Option (Bool) :=
  bif (decide (t1.fW > x2.fW)) then some (true) else bif (decide (t1.fD > x2.fD)) then some (true) else bif (decide (t1.fH > x2.fH)) then some (true) else some (decide ((w64 (t1.fTare + t1.fGram)) > x2.fGram))

def d_impl_Class (fu : Nat) (r1 : Request) : Option (Int) :=
  obind (d_impl_MasterOf fu r1) fun x17 => obind (d_impl_BoundsOk fu r1) fun x31 => bif (!x31) then some (2) else obind (d_impl_namesOk fu r1) fun x36 => bif (!x36) then some (3) else obind (d_impl_TableOk fu r1.fPairs r1.fClasses) fun x41 => bif (!x41) then some (4) else obind (d_slices_ContainsFunc_impl_Item_impl_Item fu r1.fItems (fun y46 => d_impl_Class_1 fu y46 x17.1)) fun x49 => bif x49 then some (5) else obind (d_slices_ContainsFunc_impl_Type_impl_Type fu r1.fTypes (fun y54 => d_impl_Class_2 fu y54 r1.fPallet)) fun x57 => bif x57 then some (6) else some (0)

def d_impl_sound (fu : Nat) (r1 : Request) : Option (Bool) :=
  obind (d_impl_Class fu r1) fun x17 => some (x17 == 0)

def d_bits_Mul32 (fu : Nat) (x1 : Int) (y2 : Int) : Option (Int × Int) :=
  some (IntKind.wrap .u32 (Int.fdiv (IntKind.wrap .u64 ((IntKind.wrap .u64 x1) * (IntKind.wrap .u64 y2))) (2 ^ (min 32 (IntKind.bits .u64)))), IntKind.wrap .u32 (IntKind.wrap .u64 ((IntKind.wrap .u64 x1) * (IntKind.wrap .u64 y2))))

def d_bits_Mul64 (fu : Nat) (x1 : Int) (y2 : Int) : Option (Int × Int) :=
  some (IntKind.wrap .u64 ((IntKind.wrap .u64 ((IntKind.wrap .u64 ((Int.fdiv x1 (2 ^ (min 32 (IntKind.bits .u64)))) * (Int.fdiv y2 (2 ^ (min 32 (IntKind.bits .u64)))))) + (Int.fdiv (IntKind.wrap .u64 ((IntKind.wrap .u64 ((Int.fdiv x1 (2 ^ (min 32 (IntKind.bits .u64)))) * (IntKind.wrap .u64 (((BitVec.ofInt (IntKind.bits .u64) y2 &&& BitVec.ofInt (IntKind.bits .u64) 4294967295).toNat : Nat) : Int)))) + (Int.fdiv (IntKind.wrap .u64 ((IntKind.wrap .u64 (((BitVec.ofInt (IntKind.bits .u64) x1 &&& BitVec.ofInt (IntKind.bits .u64) 4294967295).toNat : Nat) : Int)) * (IntKind.wrap .u64 (((BitVec.ofInt (IntKind.bits .u64) y2 &&& BitVec.ofInt (IntKind.bits .u64) 4294967295).toNat : Nat) : Int)))) (2 ^ (min 32 (IntKind.bits .u64)))))) (2 ^ (min 32 (IntKind.bits .u64)))))) + (Int.fdiv (IntKind.wrap .u64 ((IntKind.wrap .u64 (((BitVec.ofInt (IntKind.bits .u64) (IntKind.wrap .u64 ((IntKind.wrap .u64 ((Int.fdiv x1 (2 ^ (min 32 (IntKind.bits .u64)))) * (IntKind.wrap .u64 (((BitVec.ofInt (IntKind.bits .u64) y2 &&& BitVec.ofInt (IntKind.bits .u64) 4294967295).toNat : Nat) : Int)))) + (Int.fdiv (IntKind.wrap .u64 ((IntKind.wrap .u64 (((BitVec.ofInt (IntKind.bits .u64) x1 &&& BitVec.ofInt (IntKind.bits .u64) 4294967295).toNat : Nat) : Int)) * (IntKind.wrap .u64 (((BitVec.ofInt (IntKind.bits .u64) y2 &&& BitVec.ofInt (IntKind.bits .u64) 4294967295).toNat : Nat) : Int)))) (2 ^ (min 32 (IntKind.bits .u64)))))) &&& BitVec.ofInt (IntKind.bits .u64) 4294967295).toNat : Nat) : Int)) + (IntKind.wrap .u64 ((IntKind.wrap .u64 (((BitVec.ofInt (IntKind.bits .u64) x1 &&& BitVec.ofInt (IntKind.bits .u64) 4294967295).toNat : Nat) : Int)) * (Int.fdiv y2 (2 ^ (min 32 (IntKind.bits .u64)))))))) (2 ^ (min 32 (IntKind.bits .u64))))), IntKind.wrap .u64 (x1 * y2))

def d_bits_Mul (fu : Nat) (x1 : Int) (y2 : Int) : Option (Int × Int) :=
  obind (d_bits_Mul64 fu x1 y2) fun x3 => some (x3.1, x3.2)

def d_slices_Repeat_int_int_L1_B (fu : Nat)   (k3 : List Int → Int → Option ((List Int))) (newslice64 : List Int) (n69 : Int) : Option ((List Int)) :=
  bif (decide (n69 < ((newslice64.length : Int)))) then obind (sls newslice64 n69 (newslice64.length : Int)) fun x73 => obind (sls newslice64 0 n69) fun x79 => k3 (cpd newslice64 n69 x79) (w64 (n69 + (cpn newslice64 n69 x79))) else some (newslice64)
def d_slices_Repeat_int_int_L1 (fu : Nat)   : Nat → List Int → Int → Option ((List Int))
  | 0 => fun _ _ => none
  | n + 1 => d_slices_Repeat_int_int_L1_B fu  (d_slices_Repeat_int_int_L1 fu  n)
theorem d_slices_Repeat_int_int_L1_s (fu : Nat)   (n : Nat) : d_slices_Repeat_int_int_L1 fu  (n + 1) = d_slices_Repeat_int_int_L1_B fu  (d_slices_Repeat_int_int_L1 fu  n) := rfl

def d_slices_Repeat_int_int_J1 (fu : Nat) (x1 : List Int) (x8 : Int × Int)  : Option ((List Int)) :=
  obind (mk 8 (0 : Int) (w64 x8.2)) fun x15 => d_slices_Repeat_int_int_L1 fu fu (cpd x15 0 x1) (cpn x15 0 x1)

def d_slices_Repeat_int_int_J2 (fu : Nat) (x1 : List Int) (count5 : Int)  : Option ((List Int)) :=
  obind (d_bits_Mul fu (IntKind.wrap .u64 ((x1.length : Int))) (IntKind.wrap .u64 count5)) fun x8 => bif (decide (x8.1 > 0)) then none else bif (decide (x8.2 > 9223372036854775807)) then none else d_slices_Repeat_int_int_J1 fu x1 x8

def d_slices_Repeat_int_int (fu : Nat) (x1 : List Int) (count5 : Int) : Option ((List Int)) :=
  bif (decide (count5 < 0)) then none else d_slices_Repeat_int_int_J2 fu x1 count5

def d_impl_Units_L1_B (fu : Nat)  (r1 : Request) (k1 : List Int → Int → Option ((List Int))) (out92 : List Int) (x97 : Int) : Option ((List Int)) :=
  bif (decide (x97 < ((r1.fItems.length : Int)))) then obind (ix r1.fItems x97) fun x100 => obind (d_slices_Repeat_int_int fu (([x97] : List Int)) x100.fCount) fun x112 => obind (apnd 8 out92 x112) fun x121 => k1 x121 (w64 (x97 + 1)) else some (out92)
def d_impl_Units_L1 (fu : Nat)  (r1 : Request) : Nat → List Int → Int → Option ((List Int))
  | 0 => fun _ _ => none
  | n + 1 => d_impl_Units_L1_B fu r1 (d_impl_Units_L1 fu r1 n)
theorem d_impl_Units_L1_s (fu : Nat)  (r1 : Request) (n : Nat) : d_impl_Units_L1 fu r1 (n + 1) = d_impl_Units_L1_B fu r1 (d_impl_Units_L1 fu r1 n) := rfl

def d_impl_Units (fu : Nat) (r1 : Request) : Option ((List Int)) :=
  obind (d_impl_sound fu r1) fun x17 => bif (!x17) then some (([] : List Int)) else d_impl_Units_L1 fu r1 fu (([] : List Int)) 0

def d_impl_places_L1_B (fu : Nat)  (n1 : Int) (k1 : List Int → Int → Option ((List Int))) (out40 : List Int) (x45 : Int) : Option ((List Int)) :=
  bif (decide (x45 < n1)) then obind (apnd 8 out40 (([x45] : List Int))) fun x53 => k1 x53 (w64 (x45 + 1)) else some (out40)
def d_impl_places_L1 (fu : Nat)  (n1 : Int) : Nat → List Int → Int → Option ((List Int))
  | 0 => fun _ _ => none
  | n + 1 => d_impl_places_L1_B fu n1 (d_impl_places_L1 fu n1 n)
theorem d_impl_places_L1_s (fu : Nat)  (n1 : Int) (n : Nat) : d_impl_places_L1 fu n1 (n + 1) = d_impl_places_L1_B fu n1 (d_impl_places_L1 fu n1 n) := rfl

def d_impl_places (fu : Nat) (n1 : Int) : Option ((List Int)) :=
  d_impl_places_L1 fu n1 fu (([] : List Int)) 0

def d_slices_Index_int_int_L1_B (fu : Nat)  (sv1 : List Int) (v5 : Int) (k1 : Int → Option (Int)) (x18 : Int) : Option (Int) :=
  bif (decide (x18 < ((sv1.length : Int)))) then obind (ix sv1 x18) fun x21 => bif (v5 == x21) then some (x18) else k1 (w64 (x18 + 1)) else some ((-1))
def d_slices_Index_int_int_L1 (fu : Nat)  (sv1 : List Int) (v5 : Int) : Nat → Int → Option (Int)
  | 0 => fun _ => none
  | n + 1 => d_slices_Index_int_int_L1_B fu sv1 v5 (d_slices_Index_int_int_L1 fu sv1 v5 n)
theorem d_slices_Index_int_int_L1_s (fu : Nat)  (sv1 : List Int) (v5 : Int) (n : Nat) : d_slices_Index_int_int_L1 fu sv1 v5 (n + 1) = d_slices_Index_int_int_L1_B fu sv1 v5 (d_slices_Index_int_int_L1 fu sv1 v5 n) := rfl

def d_slices_Index_int_int (fu : Nat) (sv1 : List Int) (v5 : Int) : Option (Int) :=
  d_slices_Index_int_int_L1 fu sv1 v5 fu 0

def d_slices_Contains_int_int (fu : Nat) (sv1 : List Int) (v5 : Int) : Option (Bool) :=
  obind (d_slices_Index_int_int fu sv1 v5) fun x6 => some (decide (x6 ≥ 0))

def d_impl_Lost_1 (fu : Nat) (u1 : Int) (x2 : List Int) : Option (Bool) :=
  obind (d_slices_Contains_int_int fu x2 u1) fun x8 => some (x8)

def d_slices_IndexFunc_int_int_L1_B (fu : Nat)  (sv1 : List Int) (f5 : Int → Option Bool) (k1 : Int → Option (Int)) (x32 : Int) : Option (Int) :=
  bif (decide (x32 < ((sv1.length : Int)))) then obind (ix sv1 x32) fun x35 => obind (f5 x35) fun x37 => bif x37 then some (x32) else k1 (w64 (x32 + 1)) else some ((-1))
def d_slices_IndexFunc_int_int_L1 (fu : Nat)  (sv1 : List Int) (f5 : Int → Option Bool) : Nat → Int → Option (Int)
  | 0 => fun _ => none
  | n + 1 => d_slices_IndexFunc_int_int_L1_B fu sv1 f5 (d_slices_IndexFunc_int_int_L1 fu sv1 f5 n)
theorem d_slices_IndexFunc_int_int_L1_s (fu : Nat)  (sv1 : List Int) (f5 : Int → Option Bool) (n : Nat) : d_slices_IndexFunc_int_int_L1 fu sv1 f5 (n + 1) = d_slices_IndexFunc_int_int_L1_B fu sv1 f5 (d_slices_IndexFunc_int_int_L1 fu sv1 f5 n) := rfl

def d_slices_IndexFunc_int_int (fu : Nat) (sv1 : List Int) (f5 : Int → Option Bool) : Option (Int) :=
  d_slices_IndexFunc_int_int_L1 fu sv1 f5 fu 0

def d_slices_DeleteFunc_int_int_J1 (fu : Nat) (k3 : List Int → Int → Int → Option ((List Int))) (j87 : Int) (x102 : List Int) (i105 : Int) : Option ((List Int)) :=
  k3 x102 i105 (w64 (j87 + 1))

def d_slices_DeleteFunc_int_int_L1_B (fu : Nat)  (f5 : Int → Option Bool) (k3 : List Int → Int → Int → Option ((List Int))) (x83 : List Int) (i86 : Int) (j87 : Int) : Option ((List Int)) :=
  bif (decide (j87 < ((x83.length : Int)))) then obind (ix x83 j87) fun x106 => obind (f5 x106) fun x108 => bif (!x108) then obind (ix x83 i86) fun x113 => d_slices_DeleteFunc_int_int_J1 fu k3 j87 (setx x83 i86 x106) (w64 (i86 + 1)) else d_slices_DeleteFunc_int_int_J1 fu k3 j87 x83 i86 else obind (sls x83 i86 (x83.length : Int)) fun x117 => obind (sls (clrd x83 i86) 0 i86) fun x124 => some (x124)
def d_slices_DeleteFunc_int_int_L1 (fu : Nat)  (f5 : Int → Option Bool) : Nat → List Int → Int → Int → Option ((List Int))
  | 0 => fun _ _ _ => none
  | n + 1 => d_slices_DeleteFunc_int_int_L1_B fu f5 (d_slices_DeleteFunc_int_int_L1 fu f5 n)
theorem d_slices_DeleteFunc_int_int_L1_s (fu : Nat)  (f5 : Int → Option Bool) (n : Nat) : d_slices_DeleteFunc_int_int_L1 fu f5 (n + 1) = d_slices_DeleteFunc_int_int_L1_B fu f5 (d_slices_DeleteFunc_int_int_L1 fu f5 n) := rfl

def d_slices_DeleteFunc_int_int (fu : Nat) (sv1 : List Int) (f5 : Int → Option Bool) : Option ((List Int)) :=
  obind (d_slices_IndexFunc_int_int fu sv1 f5) fun x14 => bif (x14 == ((-1))) then some (sv1) else d_slices_DeleteFunc_int_int_L1 fu f5 fu sv1 x14 (w64 (x14 + 1))

def d_impl_Lost (fu : Nat) (r1 : Request) (x5 : Plan) : Option ((List Int)) :=
  obind (d_impl_allUnits fu x5) fun x30 => obind (d_impl_Units fu r1) fun x44 => obind (d_impl_places fu ((x44.length : Int))) fun x53 => obind (d_slices_DeleteFunc_int_int fu x53 (fun y62 => d_impl_Lost_1 fu y62 x30)) fun x65 => some (x65)

def d_laws_eqIntS_L1_B (fu : Nat)  (a1 : List Int) (b5 : List Int) (k1 : Int → Option (Bool)) (i28 : Int) : Option (Bool) :=
  bif (decide (i28 < ((a1.length : Int)))) then obind (ix a1 i28) fun x32 => obind (ix b5 i28) fun x34 => bif (x32 != x34) then some (false) else k1 (w64 (i28 + 1)) else some (true)
def d_laws_eqIntS_L1 (fu : Nat)  (a1 : List Int) (b5 : List Int) : Nat → Int → Option (Bool)
  | 0 => fun _ => none
  | n + 1 => d_laws_eqIntS_L1_B fu a1 b5 (d_laws_eqIntS_L1 fu a1 b5 n)
theorem d_laws_eqIntS_L1_s (fu : Nat)  (a1 : List Int) (b5 : List Int) (n : Nat) : d_laws_eqIntS_L1 fu a1 b5 (n + 1) = d_laws_eqIntS_L1_B fu a1 b5 (d_laws_eqIntS_L1 fu a1 b5 n) := rfl

def d_laws_eqIntS (fu : Nat) (a1 : List Int) (b5 : List Int) : Option (Bool) :=
  bif (((a1.length : Int)) != ((b5.length : Int))) then some (false) else d_laws_eqIntS_L1 fu a1 b5 fu 0

def d_laws_eqPallet (fu : Nat) (a1 : Pallet) (b2 : Pallet) : Option (Bool) :=
  bif (a1.fW != b2.fW) then some (false) else bif (a1.fD != b2.fD) then some (false) else bif (a1.fH != b2.fH) then some (false) else bif (a1.fGram != b2.fGram) then some (false) else some (true)

def d_laws_eqPair (fu : Nat) (a1 : Pair) (b2 : Pair) : Option (Bool) :=
  bif (a1.fA != b2.fA) then some (false) else bif (a1.fB != b2.fB) then some (false) else some (true)

def d_laws_eqPairS_L1_B (fu : Nat)  (a1 : List Pair) (b5 : List Pair) (k1 : Int → Option (Bool)) (i36 : Int) : Option (Bool) :=
  bif (decide (i36 < ((a1.length : Int)))) then obind (ix a1 i36) fun x40 => obind (ix b5 i36) fun x42 => obind (d_laws_eqPair fu x40 x42) fun x44 => bif (!x44) then some (false) else k1 (w64 (i36 + 1)) else some (true)
def d_laws_eqPairS_L1 (fu : Nat)  (a1 : List Pair) (b5 : List Pair) : Nat → Int → Option (Bool)
  | 0 => fun _ => none
  | n + 1 => d_laws_eqPairS_L1_B fu a1 b5 (d_laws_eqPairS_L1 fu a1 b5 n)
theorem d_laws_eqPairS_L1_s (fu : Nat)  (a1 : List Pair) (b5 : List Pair) (n : Nat) : d_laws_eqPairS_L1 fu a1 b5 (n + 1) = d_laws_eqPairS_L1_B fu a1 b5 (d_laws_eqPairS_L1 fu a1 b5 n) := rfl

def d_laws_eqPairS (fu : Nat) (a1 : List Pair) (b5 : List Pair) : Option (Bool) :=
  bif (((a1.length : Int)) != ((b5.length : Int))) then some (false) else d_laws_eqPairS_L1 fu a1 b5 fu 0

def d_laws_eqType (fu : Nat) (a1 : Typ) (b2 : Typ) : Option (Bool) :=
  bif (a1.fId != b2.fId) then some (false) else bif (a1.fW != b2.fW) then some (false) else bif (a1.fH != b2.fH) then some (false) else bif (a1.fD != b2.fD) then some (false) else bif (a1.fTare != b2.fTare) then some (false) else bif (a1.fGram != b2.fGram) then some (false) else bif (a1.fCost != b2.fCost) then some (false) else some (true)

def d_laws_eqTypeS_L1_B (fu : Nat)  (a1 : List Typ) (b5 : List Typ) (k1 : Int → Option (Bool)) (i36 : Int) : Option (Bool) :=
  bif (decide (i36 < ((a1.length : Int)))) then obind (ix a1 i36) fun x40 => obind (ix b5 i36) fun x42 => obind (d_laws_eqType fu x40 x42) fun x44 => bif (!x44) then some (false) else k1 (w64 (i36 + 1)) else some (true)
def d_laws_eqTypeS_L1 (fu : Nat)  (a1 : List Typ) (b5 : List Typ) : Nat → Int → Option (Bool)
  | 0 => fun _ => none
  | n + 1 => d_laws_eqTypeS_L1_B fu a1 b5 (d_laws_eqTypeS_L1 fu a1 b5 n)
theorem d_laws_eqTypeS_L1_s (fu : Nat)  (a1 : List Typ) (b5 : List Typ) (n : Nat) : d_laws_eqTypeS_L1 fu a1 b5 (n + 1) = d_laws_eqTypeS_L1_B fu a1 b5 (d_laws_eqTypeS_L1 fu a1 b5 n) := rfl

def d_laws_eqTypeS (fu : Nat) (a1 : List Typ) (b5 : List Typ) : Option (Bool) :=
  bif (((a1.length : Int)) != ((b5.length : Int))) then some (false) else d_laws_eqTypeS_L1 fu a1 b5 fu 0

def d_laws_eqItem (fu : Nat) (a1 : Item) (b2 : Item) : Option (Bool) :=
  bif (a1.fId != b2.fId) then some (false) else bif (a1.fW != b2.fW) then some (false) else bif (a1.fH != b2.fH) then some (false) else bif (a1.fD != b2.fD) then some (false) else bif (a1.fGram != b2.fGram) then some (false) else bif (a1.fClass != b2.fClass) then some (false) else bif (a1.fCount != b2.fCount) then some (false) else some (true)

def d_laws_eqItemS_L1_B (fu : Nat)  (a1 : List Item) (b5 : List Item) (k1 : Int → Option (Bool)) (i36 : Int) : Option (Bool) :=
  bif (decide (i36 < ((a1.length : Int)))) then obind (ix a1 i36) fun x40 => obind (ix b5 i36) fun x42 => obind (d_laws_eqItem fu x40 x42) fun x44 => bif (!x44) then some (false) else k1 (w64 (i36 + 1)) else some (true)
def d_laws_eqItemS_L1 (fu : Nat)  (a1 : List Item) (b5 : List Item) : Nat → Int → Option (Bool)
  | 0 => fun _ => none
  | n + 1 => d_laws_eqItemS_L1_B fu a1 b5 (d_laws_eqItemS_L1 fu a1 b5 n)
theorem d_laws_eqItemS_L1_s (fu : Nat)  (a1 : List Item) (b5 : List Item) (n : Nat) : d_laws_eqItemS_L1 fu a1 b5 (n + 1) = d_laws_eqItemS_L1_B fu a1 b5 (d_laws_eqItemS_L1 fu a1 b5 n) := rfl

def d_laws_eqItemS (fu : Nat) (a1 : List Item) (b5 : List Item) : Option (Bool) :=
  bif (((a1.length : Int)) != ((b5.length : Int))) then some (false) else d_laws_eqItemS_L1 fu a1 b5 fu 0

def d_laws_eqRequest (fu : Nat) (a1 : Request) (b5 : Request) : Option (Bool) :=
  bif (a1.fWay != b5.fWay) then some (false) else obind (d_laws_eqPallet fu a1.fPallet b5.fPallet) fun x34 => bif (!x34) then some (false) else bif (a1.fClasses != b5.fClasses) then some (false) else obind (d_laws_eqPairS fu a1.fPairs b5.fPairs) fun x40 => bif (!x40) then some (false) else obind (d_laws_eqTypeS fu a1.fTypes b5.fTypes) fun x45 => bif (!x45) then some (false) else bif (a1.fMaster != b5.fMaster) then some (false) else obind (d_laws_eqItemS fu a1.fItems b5.fItems) fun x51 => bif (!x51) then some (false) else some (true)

def d_laws_eqCarton (fu : Nat) (a1 : Carton) (b5 : Carton) : Option (Bool) :=
  bif (a1.fType != b5.fType) then some (false) else bif (a1.fGroup != b5.fGroup) then some (false) else obind (d_laws_eqIntS fu a1.fUnits b5.fUnits) fun x21 => bif (!x21) then some (false) else some (true)

def d_laws_eqCartonS_L1_B (fu : Nat)  (a1 : List Carton) (b5 : List Carton) (k1 : Int → Option (Bool)) (i68 : Int) : Option (Bool) :=
  bif (decide (i68 < ((a1.length : Int)))) then obind (ix a1 i68) fun x72 => obind (ix b5 i68) fun x82 => obind (d_laws_eqCarton fu x72 x82) fun x92 => bif (!x92) then some (false) else k1 (w64 (i68 + 1)) else some (true)
def d_laws_eqCartonS_L1 (fu : Nat)  (a1 : List Carton) (b5 : List Carton) : Nat → Int → Option (Bool)
  | 0 => fun _ => none
  | n + 1 => d_laws_eqCartonS_L1_B fu a1 b5 (d_laws_eqCartonS_L1 fu a1 b5 n)
theorem d_laws_eqCartonS_L1_s (fu : Nat)  (a1 : List Carton) (b5 : List Carton) (n : Nat) : d_laws_eqCartonS_L1 fu a1 b5 (n + 1) = d_laws_eqCartonS_L1_B fu a1 b5 (d_laws_eqCartonS_L1 fu a1 b5 n) := rfl

def d_laws_eqCartonS (fu : Nat) (a1 : List Carton) (b5 : List Carton) : Option (Bool) :=
  bif (((a1.length : Int)) != ((b5.length : Int))) then some (false) else d_laws_eqCartonS_L1 fu a1 b5 fu 0

def d_laws_eqSpot (fu : Nat) (a1 : Spot) (b2 : Spot) : Option (Bool) :=
  bif (a1.fPallet != b2.fPallet) then some (false) else bif (a1.fX != b2.fX) then some (false) else bif (a1.fY != b2.fY) then some (false) else bif (a1.fZ != b2.fZ) then some (false) else some (true)

def d_laws_eqSpotS_L1_B (fu : Nat)  (a1 : List Spot) (b5 : List Spot) (k1 : Int → Option (Bool)) (i36 : Int) : Option (Bool) :=
  bif (decide (i36 < ((a1.length : Int)))) then obind (ix a1 i36) fun x40 => obind (ix b5 i36) fun x42 => obind (d_laws_eqSpot fu x40 x42) fun x44 => bif (!x44) then some (false) else k1 (w64 (i36 + 1)) else some (true)
def d_laws_eqSpotS_L1 (fu : Nat)  (a1 : List Spot) (b5 : List Spot) : Nat → Int → Option (Bool)
  | 0 => fun _ => none
  | n + 1 => d_laws_eqSpotS_L1_B fu a1 b5 (d_laws_eqSpotS_L1 fu a1 b5 n)
theorem d_laws_eqSpotS_L1_s (fu : Nat)  (a1 : List Spot) (b5 : List Spot) (n : Nat) : d_laws_eqSpotS_L1 fu a1 b5 (n + 1) = d_laws_eqSpotS_L1_B fu a1 b5 (d_laws_eqSpotS_L1 fu a1 b5 n) := rfl

def d_laws_eqSpotS (fu : Nat) (a1 : List Spot) (b5 : List Spot) : Option (Bool) :=
  bif (((a1.length : Int)) != ((b5.length : Int))) then some (false) else d_laws_eqSpotS_L1 fu a1 b5 fu 0

theorem c_impl_Class_1 (fu : Nat) {w0 : World} (x1 : Item) (x2 : Typ) {b3 : Nat} (hp4 : bx w0 b3 [.int .i64 x2.fId, .int .i64 x2.fW, .int .i64 x2.fH, .int .i64 x2.fD, .int .i64 x2.fTare, .int .i64 x2.fGram, .int .i64 x2.fCost] 92) {r : Bool}
    (h : d_impl_Class_1 fu x1 x2 = some r) :
    Calls Tryz.prog 182 #[.agg (Flat.e (x1)).toArray, .pointer (some (⟨b3, 0, none⟩ : Addr))] w0 fun e w => e = .returned (.bool (r)) ∧ Ext [] w0 w := by
 refine enter (vs := [_, _]) func182 rfl ntmps182 rfl fun a k => ?_
 have m := St.start w0
 unfold d_impl_Class_1 at h
 refine wr (s_box (cs := [.int .i64 x1.fId, .int .i64 x1.fW, .int .i64 x1.fH, .int .i64 x1.fD, .int .i64 x1.fGram, .int .i64 x1.fClass, .int .i64 x1.fCount]) m k rfl rfl rfl rfl rfl rfl fun b5 w7 a k m e hb6 => pN 1 k rfl fun a k => nn (wr (sv k rfl (r_ldB ta120 m 0 hb6 0 k rfl rfl rfl rfl rfl rfl) fun a k => sv k rfl (r_ldA ta92 (hp4.at (m.a00 hp4.lt1) 0 7 rfl rfl rfl) rfl k rfl rfl) fun a k => oE h fun x8 hx9 h => cE k m call183 rfl rfl rfl (c_impl_Fits fu (x1 : Item) (x2 : Typ)  hx9) fun w11 e a k m => pN 2 k rfl fun a k => nn (wp_ret (fS h k m rfl rfl)))))
theorem c_impl_Class_2 (fu : Nat) {w0 : World} (t1 : Typ) (x2 : Pallet) {b3 : Nat} (hp4 : bx w0 b3 [.int .i64 x2.fW, .int .i64 x2.fD, .int .i64 x2.fH, .int .i64 x2.fGram] 35) {r : Bool}
    (h : d_impl_Class_2 fu t1 x2 = some r) :
    Calls Tryz.prog 185 #[.agg (Flat.e (t1)).toArray, .pointer (some (⟨b3, 0, none⟩ : Addr))] w0 fun e w => e = .returned (.bool (r)) ∧ Ext [] w0 w := by
 refine enter (vs := [_, _]) func185 rfl ntmps185 rfl fun a k => ?_
 have m := St.start w0
 unfold d_impl_Class_2 at h
 refine wr (s_box (cs := [.int .i64 t1.fId, .int .i64 t1.fW, .int .i64 t1.fH, .int .i64 t1.fD, .int .i64 t1.fTare, .int .i64 t1.fGram, .int .i64 t1.fCost]) m k rfl rfl rfl rfl rfl rfl fun b5 w7 a k m e hb6 => pN 1 k rfl fun a k => nn (wr (sv k rfl (r_fa fa92_1 k rfl rfl) fun a k => sv k rfl (r_ldb t13 m 0 hb6 1 k rfl rfl rfl rfl rfl) fun a k => sv k rfl (r_fa fa35_0 k rfl rfl) fun a k => sv k rfl (r_ld1 t13 (r := []) (hp4.at (m.a00 hp4.lt1) 0 1 rfl rfl rfl) k rfl rfl) fun a k => pN 2 k rfl fun a k => bsplit (decide (t1.fW > x2.fW)) (fun hb8 => ?_) (fun hb8 => ?_))))
 · have h := bif_t hb8 h
   refine rB k 9 rfl hb8 fun k => pN 24 k rfl fun a k => ?_
   have k := k.keep [3] rfl
   refine nn (wp_ret (fS h k m rfl rfl))
 have h := bif_f hb8 h
 refine rB k 9 rfl hb8 fun k => sv k rfl (r_fa fa92_3 k rfl rfl) fun a k => sv k rfl (r_ldb t13 m 0 hb6 3 k rfl rfl rfl rfl rfl) fun a k => sv k rfl (r_fa fa35_1 k rfl rfl) fun a k => sv k rfl (r_ld1 t13 (r := []) (hp4.at (m.a00 hp4.lt1) 1 1 rfl rfl rfl) k rfl rfl) fun a k => pN 3 k rfl fun a k => bsplit (decide (t1.fD > x2.fD)) (fun hb9 => ?_) (fun hb9 => ?_)
 · have h := bif_t hb9 h
   refine rB k 16 rfl hb9 fun k => pN 17 k rfl fun a k => ?_
   have k := k.keep [3] rfl
   refine nn (wp_ret (fS h k m rfl rfl))
 have h := bif_f hb9 h
 refine rB k 16 rfl hb9 fun k => sv k rfl (r_fa fa92_2 k rfl rfl) fun a k => sv k rfl (r_ldb t13 m 0 hb6 2 k rfl rfl rfl rfl rfl) fun a k => sv k rfl (r_fa fa35_2 k rfl rfl) fun a k => sv k rfl (r_ld1 t13 (r := []) (hp4.at (m.a00 hp4.lt1) 2 1 rfl rfl rfl) k rfl rfl) fun a k => pN 3 k rfl fun a k => bsplit (decide (t1.fH > x2.fH)) (fun hb10 => ?_) (fun hb10 => ?_)
 · have h := bif_t hb10 h
   refine rB k 23 rfl hb10 fun k => pN 10 k rfl fun a k => ?_
   have k := k.keep [3] rfl
   refine nn (wp_ret (fS h k m rfl rfl))
 have h := bif_f hb10 h
 refine rB k 23 rfl hb10 fun k => sv k rfl (r_fa fa92_4 k rfl rfl) fun a k => sv k rfl (r_ldb t13 m 0 hb6 4 k rfl rfl rfl rfl rfl) fun a k => sv k rfl (r_fa fa92_5 k rfl rfl) fun a k => sv k rfl (r_ldb t13 m 0 hb6 5 k rfl rfl rfl rfl rfl) fun a k => pN 1 k rfl fun a k => sv k rfl (r_fa fa35_3 k rfl rfl) fun a k => sv k rfl (r_ld1 t13 (r := []) (hp4.at (m.a00 hp4.lt1) 3 1 rfl rfl rfl) k rfl rfl) fun a k => pN 3 k rfl fun a k => ?_
 have k := k.keep [3] rfl
 refine nn (wp_ret (fS h k m rfl rfl))
theorem c_impl_Class (fu : Nat) {w0 : World} (r1 : Request) {cs2 : List Value} {F3 : List Nat} (hp4 : rd w0 F3 cs2 r1) {r : Int}
    (h : d_impl_Class fu r1 = some r) :
    Calls Tryz.prog 142 #[.agg cs2.toArray] w0 fun e w => e = .returned (.int .i64 r) ∧ Ext [] w0 w := by
 refine enter (vs := [_]) func142 rfl ntmps142 rfl fun a k => ?_
 have m := St.start w0
 obtain ⟨v5, F6, v7, F8, v9, F10, rfl, rfl, hf11, hf12, hf13⟩ := hp4
 unfold d_impl_Class at h
 refine wr (s_box (cs := [.int .i64 r1.fWay, .int .i64 r1.fPallet.fW, .int .i64 r1.fPallet.fD, .int .i64 r1.fPallet.fH, .int .i64 r1.fPallet.fGram, .int .i64 r1.fClasses, v5, v7, .int .i64 r1.fMaster, v9]) m k rfl rfl rfl rfl rfl rfl fun b14 w16 a k m e hb15 => pN 1 k rfl fun a k => nn (wr (sv k rfl (r_ldB ta40 m 0 hb15 0 k rfl rfl rfl rfl rfl rfl) fun a k => oE h fun x17 hx18 h => cE k m call148 rfl rfl rfl (c_impl_MasterOf fu _ (show rd _ _ [.int .i64 r1.fWay, .int .i64 r1.fPallet.fW, .int .i64 r1.fPallet.fD, .int .i64 r1.fPallet.fH, .int .i64 r1.fPallet.fGram, .int .i64 r1.fClasses, v5, v7, .int .i64 r1.fMaster, v9] (r1 : Request) from ⟨_, _, _, _, _, _, rfl, rfl, (Enc.rd_agr hf11 (m.a00 (Enc.rd_lt hf11))), (Enc.rd_agr hf12 (m.a00 (Enc.rd_lt hf12))), (Enc.rd_agr hf13 (m.a00 (Enc.rd_lt hf13)))⟩) hx18) fun w20 e a k m => ?_)))
 refine pN 3 k rfl fun a k => s_alloc (cs := [.int .i64 0, .int .i64 0, .int .i64 0, .int .i64 0, .int .i64 0, .int .i64 0, .int .i64 0]) m k zeroValue92 rfl rfl rfl rfl rfl fun b21 w23 a k m e hb22 => s_stb (cs' := [.int .i64 x17.1.fId, .int .i64 x17.1.fW, .int .i64 x17.1.fH, .int .i64 x17.1.fD, .int .i64 x17.1.fTare, .int .i64 x17.1.fGram, .int .i64 x17.1.fCost]) sizeOf92 m 0 hb22 0 k rfl rfl rfl rfl rfl rfl rfl rfl rfl rfl rfl fun w24 a k e m hb25 => pN 1 k rfl fun a k => nn (wr (sv k rfl (r_fa fa40_1 k rfl rfl) fun a k => sv k rfl (r_ldB ta35 m 1 hb15 1 k rfl rfl rfl rfl rfl rfl) fun a k => s_alloc (cs := [.int .i64 0, .int .i64 0, .int .i64 0, .int .i64 0]) m k zeroValue35 rfl rfl rfl rfl rfl fun b26 w28 a k m e hb27 => ?_))
 refine s_stb (cs' := [.int .i64 r1.fPallet.fW, .int .i64 r1.fPallet.fD, .int .i64 r1.fPallet.fH, .int .i64 r1.fPallet.fGram]) sizeOf35 m 0 hb27 0 k rfl rfl rfl rfl rfl rfl rfl rfl rfl rfl rfl fun w29 a k e m hb30 => nn (wp_seq (wp_block (wr (sv k rfl (r_ldB ta40 m 2 hb15 0 k rfl rfl rfl rfl rfl rfl) fun a k => oE h fun x31 hx32 h => cE k m call179 rfl rfl rfl (c_impl_BoundsOk fu _ (show rd _ _ [.int .i64 r1.fWay, .int .i64 r1.fPallet.fW, .int .i64 r1.fPallet.fD, .int .i64 r1.fPallet.fH, .int .i64 r1.fPallet.fGram, .int .i64 r1.fClasses, v5, v7, .int .i64 r1.fMaster, v9] (r1 : Request) from ⟨_, _, _, _, _, _, rfl, rfl, (Enc.rd_agr hf11 (m.a00 (Enc.rd_lt hf11))), (Enc.rd_agr hf12 (m.a00 (Enc.rd_lt hf12))), (Enc.rd_agr hf13 (m.a00 (Enc.rd_lt hf13)))⟩) hx32) fun w34 e a k m => pN 2 k rfl fun a k => nn ?_))))
 refine cI h k rfl (fun hb35 h => ?_) fun hb35 h => ?_
 · refine wr (pN 1 k rfl fun a k => nn (wp_ret (rt_block (rt_then ?_))))
   refine fS h k m rfl rfl
 refine wr (sv k rfl (r_ldB ta40 m 2 hb15 0 k rfl rfl rfl rfl rfl rfl) fun a k => oE h fun x36 hx37 h => cE k m call180 rfl rfl rfl (c_impl_namesOk fu _ (show rd _ _ [.int .i64 r1.fWay, .int .i64 r1.fPallet.fW, .int .i64 r1.fPallet.fD, .int .i64 r1.fPallet.fH, .int .i64 r1.fPallet.fGram, .int .i64 r1.fClasses, v5, v7, .int .i64 r1.fMaster, v9] (r1 : Request) from ⟨_, _, _, _, _, _, rfl, rfl, (Enc.rd_agr hf11 (m.a00 (Enc.rd_lt hf11))), (Enc.rd_agr hf12 (m.a00 (Enc.rd_lt hf12))), (Enc.rd_agr hf13 (m.a00 (Enc.rd_lt hf13)))⟩) hx37) fun w39 e a k m => pN 2 k rfl fun a k => nn (cI h k rfl (fun hb40 h => ?_) fun hb40 h => ?_))
 · refine wr (pN 1 k rfl fun a k => nn (wp_ret (rt_block (rt_then ?_))))
   refine fS h k m rfl rfl
 refine wr (sv k rfl (r_fa fa40_3 k rfl rfl) fun a k => sv k rfl (r_ldb t136 m 2 hb15 6 k rfl rfl rfl rfl rfl) fun a k => sv k rfl (r_fa fa40_2 k rfl rfl) fun a k => sv k rfl (r_ldb t13 m 2 hb15 5 k rfl rfl rfl rfl rfl) fun a k => oE h fun x41 hx42 h => cE k m call181 rfl rfl rfl (c_impl_TableOk fu _ _ (Enc.rd_agr hf11 (m.a00 (Enc.rd_lt hf11))) hx42) fun w44 e a k m => pN 2 k rfl fun a k => ?_)
 have k := k.keep [1, 3, 5, 21] rfl
 refine nn (cI h k rfl (fun hb45 h => ?_) fun hb45 h => ?_)
 · refine wr (pN 1 k rfl fun a k => nn (wp_ret (rt_block (rt_then ?_))))
   refine fS h k m rfl rfl
 refine wr (sv k rfl (r_fa fa40_6 k rfl rfl) fun a k => sv k rfl (r_ldb t138 m 2 hb15 9 k rfl rfl rfl rfl rfl) fun a k => pN 1 k rfl fun a k => oE h fun x49 hx50 h => cE k m call151 rfl rfl rfl (c_slices_ContainsFunc_impl_Item_impl_Item fu _ _ (Enc.rd_agr hf13 (m.a00 (Enc.rd_lt hf13))) ⟨182, [.pointer (some (⟨b21, 0, none⟩ : Addr))], rfl, call182, fun w y46 v47 r e hv48 hx => by subst hv48; have m := m.step e; exact c_impl_Class_1 fu _ _ (hb25.agr (m.a 1 rfl) (by simp)) hx⟩ hx50) fun w52 e a k m => pN 1 k rfl fun a k => nn (cI h k rfl (fun hb53 h => ?_) fun hb53 h => ?_))
 · refine wr (pN 1 k rfl fun a k => nn (wp_ret (rt_block (rt_then ?_))))
   refine fS h k m rfl rfl
 refine wr (sv k rfl (r_fa fa40_4 k rfl rfl) fun a k => sv k rfl (r_ldb t137 m 2 hb15 7 k rfl rfl rfl rfl rfl) fun a k => pN 1 k rfl fun a k => oE h fun x57 hx58 h => cE k m call184 rfl rfl rfl (c_slices_ContainsFunc_impl_Type_impl_Type fu _ _ (Enc.rd_agr hf12 (m.a00 (Enc.rd_lt hf12))) ⟨185, [.pointer (some (⟨b26, 0, none⟩ : Addr))], rfl, call185, fun w y54 v55 r e hv56 hx => by subst hv56; have m := m.step e; exact c_impl_Class_2 fu _ _ (hb30.agr (m.a 0 rfl) (by simp)) hx⟩ hx58) fun w60 e a k m => pN 1 k rfl fun a k => nn (cI h k rfl (fun hb61 h => ?_) fun hb61 h => ?_))
 · refine wr (pN 1 k rfl fun a k => nn (wp_ret (rt_block (rt_then ?_))))
   refine fS h k m rfl rfl
 refine wp_skip (nm_block (nm_then ?_))
 refine wr (pN 1 k rfl fun a k => nn (wp_ret (fS h k m rfl rfl)))
theorem c_impl_sound (fu : Nat) {w0 : World} (r1 : Request) {cs2 : List Value} {F3 : List Nat} (hp4 : rd w0 F3 cs2 r1) {r : Bool}
    (h : d_impl_sound fu r1 = some r) :
    Calls Tryz.prog 76 #[.agg cs2.toArray] w0 fun e w => e = .returned (.bool (r)) ∧ Ext [] w0 w := by
 refine enter (vs := [_]) func76 rfl ntmps76 rfl fun a k => ?_
 have m := St.start w0
 obtain ⟨v5, F6, v7, F8, v9, F10, rfl, rfl, hf11, hf12, hf13⟩ := hp4
 unfold d_impl_sound at h
 refine wr (s_box (cs := [.int .i64 r1.fWay, .int .i64 r1.fPallet.fW, .int .i64 r1.fPallet.fD, .int .i64 r1.fPallet.fH, .int .i64 r1.fPallet.fGram, .int .i64 r1.fClasses, v5, v7, .int .i64 r1.fMaster, v9]) m k rfl rfl rfl rfl rfl rfl fun b14 w16 a k m e hb15 => pN 1 k rfl fun a k => nn (wr (sv k rfl (r_ldB ta40 m 0 hb15 0 k rfl rfl rfl rfl rfl rfl) fun a k => oE h fun x17 hx18 h => cE k m call142 rfl rfl rfl (c_impl_Class fu _ (show rd _ _ [.int .i64 r1.fWay, .int .i64 r1.fPallet.fW, .int .i64 r1.fPallet.fD, .int .i64 r1.fPallet.fH, .int .i64 r1.fPallet.fGram, .int .i64 r1.fClasses, v5, v7, .int .i64 r1.fMaster, v9] (r1 : Request) from ⟨_, _, _, _, _, _, rfl, rfl, (Enc.rd_agr hf11 (m.a00 (Enc.rd_lt hf11))), (Enc.rd_agr hf12 (m.a00 (Enc.rd_lt hf12))), (Enc.rd_agr hf13 (m.a00 (Enc.rd_lt hf13)))⟩) hx18) fun w20 e a k m => ?_)))
 refine pN 2 k rfl fun a k => nn (wp_ret (fS h k m rfl rfl))
theorem c_bits_Mul32 (fu : Nat) {w0 : World} (x1 : Int) (y2 : Int)  {r : Int × Int}
    (h : d_bits_Mul32 fu x1 y2 = some r) :
    Calls Tryz.prog 208 #[.int .u32 (x1), .int .u32 (y2)] w0 fun e w => e = .returned (.tuple #[.int .u32 (r.1), .int .u32 (r.2)]) ∧ Ext [] w0 w := by
 refine enter (vs := [_, _]) func208 rfl ntmps208 rfl fun a k => ?_
 have m := St.start w0
 unfold d_bits_Mul32 at h
 refine wr (pN 2 k rfl fun a k => nn (wr (pN 1 k rfl fun a k => sv k rfl (r_cv k underlying191 underlying194 rfl rfl) fun a k => pN 1 k rfl fun a k => sv k rfl (r_cv k underlying191 underlying194 rfl rfl) fun a k => pN 2 k rfl fun a k => nn (wr (pN 1 k rfl fun a k => sv k rfl (r_shr (y := 32) k rfl rfl rfl) fun a k => sv k rfl (r_cv k underlying194 underlying191 rfl rfl) fun a k => pN 1 k rfl fun a k => sv k rfl (r_cv k underlying194 underlying191 rfl rfl) fun a k => pN 2 k rfl fun a k => nn (wp_ret ?_))))))
 cases h
 exact finR2 k rfl (RV.tmp k rfl) (RV.tmp k rfl) ⟨rfl, m.ext⟩
theorem c_bits_Mul64 (fu : Nat) {w0 : World} (x1 : Int) (y2 : Int)  {r : Int × Int}
    (h : d_bits_Mul64 fu x1 y2 = some r) :
    Calls Tryz.prog 209 #[.int .u64 (x1), .int .u64 (y2)] w0 fun e w => e = .returned (.tuple #[.int .u64 (r.1), .int .u64 (r.2)]) ∧ Ext [] w0 w := by
 refine enter (vs := [_, _]) func209 rfl ntmps209 rfl fun a k => ?_
 have m := St.start w0
 unfold d_bits_Mul64 at h
 refine wr (pN 2 k rfl fun a k => nn (wr (pN 3 k rfl fun a k => nn (wr (pN 1 k rfl fun a k => sv k rfl (r_shr (y := 32) k rfl rfl rfl) fun a k => pN 1 k rfl fun a k => nn (wr (pN 3 k rfl fun a k => nn (wr (pN 1 k rfl fun a k => sv k rfl (r_shr (y := 32) k rfl rfl rfl) fun a k => pN 1 k rfl fun a k => nn (wr (pN 4 k rfl fun a k => nn (wr (pN 4 k rfl fun a k => sv k rfl (r_shr (y := 32) k rfl rfl rfl) fun a k => pN 2 k rfl fun a k => ?_)))))))))))))
 have k := k.keep [0, 1, 6, 7, 9, 11] rfl
 refine nn (wr (pN 3 k rfl fun a k => nn (wr (pN 1 k rfl fun a k => sv k rfl (r_shr (y := 32) k rfl rfl rfl) fun a k => pN 1 k rfl fun a k => nn (wr (pN 6 k rfl fun a k => nn (wr (pN 6 k rfl fun a k => sv k rfl (r_shr (y := 32) k rfl rfl rfl) fun a k => pN 2 k rfl fun a k => ?_))))))))
 have k := k.keep [0, 1, 4] rfl
 refine nn (wr (pN 4 k rfl fun a k => nn (wp_ret ?_)))
 cases h
 exact finR2 k rfl (RV.tmp k rfl) (RV.tmp k rfl) ⟨rfl, m.ext⟩
theorem c_bits_Mul (fu : Nat) {w0 : World} (x1 : Int) (y2 : Int)  {r : Int × Int}
    (h : d_bits_Mul fu x1 y2 = some r) :
    Calls Tryz.prog 186 #[.int .u64 (x1), .int .u64 (y2)] w0 fun e w => e = .returned (.tuple #[.int .u64 (r.1), .int .u64 (r.2)]) ∧ Ext [] w0 w := by
 refine enter (vs := [_, _]) func186 rfl ntmps186 rfl fun a k => ?_
 have m := St.start w0
 unfold d_bits_Mul at h
 refine wr (pN 2 k rfl fun a k => nn (wp_seq (wp_cond_false (k.ev rfl) (wp_skip (nm_then ?_)))))
 refine wr (pN 2 k rfl fun a k => oE h fun x3 hx4 h => cE k m call209 rfl rfl rfl (c_bits_Mul64 fu _ _  hx4) fun w6 e a k m => pN 5 k rfl fun a k => nn (wr (pN 4 k rfl fun a k => nn (wp_ret ?_))))
 cases h
 exact finR2 k rfl (RV.tmp k rfl) (RV.tmp k rfl) ⟨rfl, m.ext⟩
theorem c_slices_Repeat_int_int (fu : Nat) {w0 : World} (x1 : List Int) (count5 : Int) {v2 : Value} {F3 : List Nat} (hp4 : rd w0 F3 [v2] x1) {r : (List Int)}
    (h : d_slices_Repeat_int_int fu x1 count5 = some r) :
    Calls Tryz.prog 147 #[v2, .int .i64 count5] w0 fun e w => ∃ (v0 : Value) (G0 : List Nat), e = .returned (v0) ∧ Ext [] w0 w ∧ ow w G0 [v0] r ∧ (∀ b ∈ G0, w0.heap.size ≤ b) := by
 refine enter (vs := [_, _]) func147 rfl ntmps147 rfl fun a k => ?_
 have m := St.start w0
 unfold d_slices_Repeat_int_int at h
 refine wr (pN 1 k rfl fun a k => nn (c_cut (fun a w => K 48 [(0, v2), (1, .int .i64 count5)] a ∧ St [] w0 w [] ∧ d_slices_Repeat_int_int_J2 fu x1 count5 = some r) ?_ ?_))
 · rintro a w7 ⟨k, m, h⟩
   unfold d_slices_Repeat_int_int_J2 at h
   refine wr (pN 1 k rfl fun a k => sv k rfl (r_len (α := Int) hp4 k underlying29 rfl rfl) fun a k => sv k rfl (r_cv k underlying3 underlying181 rfl rfl) fun a k => pN 1 k rfl fun a k => sv k rfl (r_cv k underlying3 underlying181 rfl rfl) fun a k => oE h fun x8 hx9 h => cE k m call186 rfl rfl rfl (c_bits_Mul fu _ _  hx9) fun w11 e a k m => pN 5 k rfl fun a k => nn (c_cut (fun a w => K 48 [(0, v2), (6, .int .u64 (x8.2))] a ∧ St [] w0 w [] ∧ d_slices_Repeat_int_int_J1 fu x1 x8 = some r) ?_ ?_))
   · rintro a w14 ⟨k, m, h⟩
     unfold d_slices_Repeat_int_int_J1 at h
     refine wr (pN 1 k rfl fun a k => sv k rfl (r_cv k underlying181 underlying3 rfl rfl) fun a k => oE h fun x15 hx16 h => s_mk hx16 te29 rfl rfl m k rfl rfl rfl rfl rfl rfl fun g17 w18 a v20 k m e hf19 => pN 1 k rfl fun a k => nn (wr (pN 2 k rfl fun a k => s_cp (lo := 0) te29 m 0 hf19 (Part.self _) (Enc.rd_agr hp4 (m.a00 (Enc.rd_lt hp4))) k rfl rfl rfl rfl rfl rfl rfl fun w21 a k e m hf22 => pN 1 k rfl fun a k => nn (wp_seq (wp_block (c_loop (fun n a w => ∃ (newslice64 : List Int) (v65 : Value) (F66 : List Nat) (u67 : World) (n69 : Int), K 48 [(7, v65), (8, .int .i64 n69)] a ∧ St [] w0 w [(F66, u67)] ∧ ow u67 F66 [v65] newslice64 ∧ d_slices_Repeat_int_int_L1 fu  n newslice64 n69 = some r) ?_ ?_ fu _ _ ?_))))))
     · rintro a w ⟨_, _, _, _, _, _, _, _, h⟩
       exact nS h
     · rintro m70 a w63 ⟨newslice64, v65, F66, u67, n69, k, m, hf68, h⟩
       rw [d_slices_Repeat_int_int_L1_s] at h
       unfold d_slices_Repeat_int_int_L1_B at h
       refine wp_seq (wr (pN 2 k rfl fun a k => sv k rfl (r_len (α := Int) (Enc.ow_rd hf68) k underlying29 rfl rfl) fun a k => pN 1 k rfl fun a k => nn (cI h k rfl (fun hb71 h => ?_) fun hb71 h => ?_)))
       · refine wp_skip (nm_then ?_)
         refine wp_block (d_go (F66) mixo m rfl fun w72 hMd => ?_)
         have m := hMd
         have s := Ext.refl ((F66) : List Nat) w72
         refine dp k 0 rfl (by kernel_rfl) rfl s (fun _ _ _ => id) rfl fun a k => dp k 1 rfl (by kernel_rfl) rfl s (fun _ _ _ => id) rfl fun a k => dp k 2 rfl (by kernel_rfl) rfl s (fun _ _ _ => id) rfl fun a k => oE h fun x73 hx74 h => ?_
         obtain ⟨v75, hf76, hP77, hrn78⟩ := sl_from (Enc.ow_rd hf68) hx74 ts29
         refine dt k 3 rfl (by kernel_rfl) rfl s (fun _ _ _ => id) (fun w s => hrn78 k rfl rfl rfl _) fun a k => dp k 4 rfl (by kernel_rfl) rfl s (fun _ _ _ => id) rfl fun a k => dp k 5 rfl (by kernel_rfl) rfl s (fun _ _ _ => id) rfl fun a k => oE h fun x79 hx80 h => ?_
         obtain ⟨v81, hf82, hrn84⟩ := sl_to (Enc.ow_rd hf68) hx80 ts29
         refine dt k 6 rfl (by kernel_rfl) rfl s (fun _ _ _ => id) (fun w s => hrn84 k rfl rfl rfl _) fun a k => d_one 7 (by kernel_rfl) rfl (s_cp (lo := n69) te29 m 0 hf68 hP77 (Enc.rd_agr hf82 (m.a 0 rfl)) k rfl rfl rfl rfl rfl rfl rfl fun w85 a k e m hf86 => ?_)
         have s := s.trans e (fun y hy => Or.inl hy)
         refine wpList_nil ⟨s, ?_⟩
         refine dp k 8 rfl (by kernel_rfl) rfl s (fun _ _ _ => id) rfl fun a k => dp k 9 rfl (by kernel_rfl) rfl s (fun _ _ _ => id) rfl fun a k => d_done (by kernel_rfl) ((nm_block (nm_then ?_)))
         exact ⟨cpd newslice64 n69 x79, v65, F66, w85, w64 (n69 + (cpn newslice64 n69 x79)), k.keep [7, 8] rfl, m.sel [0] rfl (by decide), hf86, h⟩
       refine wp_exit (ex_then (ex_then (ex_same (nm_then ?_))))
       refine wr (pN 2 k rfl fun a k => nn (wp_ret ?_))
       cases h
       exact finR1 k rfl (RV.tmp k rfl) ⟨_, F66, rfl, m.ext, (Enc.ow_agr hf68 (m.a 0 rfl)), (m.fresh 0 rfl)⟩
     exact ⟨cpd x15 0 x1, v20, [g17], w21, cpn x15 0 x1, k.keep [7, 8] rfl, m.sel [0] rfl (by decide), hf22, h⟩
   refine wr (pN 3 k rfl fun a k => bsplit (decide (x8.1 > 0)) (fun hb87 => ?_) (fun hb87 => ?_))
   · have h := bif_t hb87 h
     refine rB k 23 rfl hb87 fun k => pN 3 k rfl fun a k => nn (wp_cond_true (k.ev rfl) ?_)
     exact nS h
   have h := bif_f hb87 h
   refine rB k 23 rfl hb87 fun k => pN 3 k rfl fun a k => nn (cI h k rfl (fun hb88 h => ?_) fun hb88 h => ?_)
   · exact nS h
   refine wp_skip (nm_then ?_)
   exact ⟨k.keep [0, 6] rfl, m.sel [] rfl (by decide), h⟩
 refine wr (pN 2 k rfl fun a k => nn (cI h k rfl (fun hb89 h => ?_) fun hb89 h => ?_))
 · exact nS h
 refine wp_skip (nm_then ?_)
 exact ⟨k.keep [0, 1] rfl, m.sel [] rfl (by decide), h⟩
theorem c_impl_Units (fu : Nat) {w0 : World} (r1 : Request) {cs2 : List Value} {F3 : List Nat} (hp4 : rd w0 F3 cs2 r1) {r : (List Int)}
    (h : d_impl_Units fu r1 = some r) :
    Calls Tryz.prog 84 #[.agg cs2.toArray] w0 fun e w => ∃ (v0 : Value) (G0 : List Nat), e = .returned (v0) ∧ Ext [] w0 w ∧ ow w G0 [v0] r ∧ (∀ b ∈ G0, w0.heap.size ≤ b) := by
 refine enter (vs := [_]) func84 rfl ntmps84 rfl fun a k => ?_
 have m := St.start w0
 obtain ⟨v5, F6, v7, F8, v9, F10, rfl, rfl, hf11, hf12, hf13⟩ := hp4
 unfold d_impl_Units at h
 refine wr (s_box (cs := [.int .i64 r1.fWay, .int .i64 r1.fPallet.fW, .int .i64 r1.fPallet.fD, .int .i64 r1.fPallet.fH, .int .i64 r1.fPallet.fGram, .int .i64 r1.fClasses, v5, v7, .int .i64 r1.fMaster, v9]) m k rfl rfl rfl rfl rfl rfl fun b14 w16 a k m e hb15 => pN 1 k rfl fun a k => nn (wp_seq (wr (sv k rfl (r_ldB ta40 m 0 hb15 0 k rfl rfl rfl rfl rfl rfl) fun a k => oE h fun x17 hx18 h => cE k m call76 rfl rfl rfl (c_impl_sound fu _ (show rd _ _ [.int .i64 r1.fWay, .int .i64 r1.fPallet.fW, .int .i64 r1.fPallet.fD, .int .i64 r1.fPallet.fH, .int .i64 r1.fPallet.fGram, .int .i64 r1.fClasses, v5, v7, .int .i64 r1.fMaster, v9] (r1 : Request) from ⟨_, _, _, _, _, _, rfl, rfl, (Enc.rd_agr hf11 (m.a00 (Enc.rd_lt hf11))), (Enc.rd_agr hf12 (m.a00 (Enc.rd_lt hf12))), (Enc.rd_agr hf13 (m.a00 (Enc.rd_lt hf13)))⟩) hx18) fun w20 e a k m => ?_))))
 refine pN 1 k rfl fun a k => nn (cI h k rfl (fun hb21 h => ?_) fun hb21 h => ?_)
 · refine wr (pN 1 k rfl fun a k => nn (wp_ret (rt_then ?_)))
   cases h
   exact finR1 k rfl (RV.tmp k rfl) ⟨_, [], rfl, m.ext, (ow_nil _), (by simp)⟩
 refine wp_skip (nm_then ?_)
 refine wr (s_bs (cs := []) (ps := []) te29 m k rfl rfl rfl rfl rfl rfl rfl (by decide) rfl (by exact (List.forall_mem_nil _)) fun g22 w23 e25 a k m e hb24 => ?_)
 have hf26 := ow_bx hb24 ([] : List Int) rfl rfl rfl
 refine pN 1 k rfl fun a k => nn (wp_seq (wr (sv k rfl (r_fa fa40_6 k rfl rfl) fun a k => sv k rfl (r_ldb t138 m 1 hb15 9 k rfl rfl rfl rfl rfl) fun a k => sv k rfl (r_len (α := Item) hf13 k underlying38 rfl rfl) fun a k => pN 1 k rfl fun a k => nn (wp_block (c_loop (fun n a w => ∃ (out92 : List Int) (v93 : Value) (F94 : List Nat) (u95 : World) (x97 : Int), K 27 [(3, v93), (11, v9), (12, .int .i64 ((r1.fItems.length : Int))), (13, .int .i64 x97)] a ∧ St [] w0 w [(F94, u95)] ∧ ow u95 F94 [v93] out92 ∧ d_impl_Units_L1 fu r1 n out92 x97 = some r) ?_ ?_ fu _ _ ?_)))))
 · rintro a w ⟨_, _, _, _, _, _, _, _, h⟩
   exact nS h
 · rintro m98 a w91 ⟨out92, v93, F94, u95, x97, k, m, hf96, h⟩
   rw [d_impl_Units_L1_s] at h
   unfold d_impl_Units_L1_B at h
   refine wr (pN 1 k rfl fun a k => nn (wp_seq (cI h k rfl (fun hb99 h => ?_) fun hb99 h => ?_)))
   · refine wp_skip (nm_then ?_)
     refine wp_seq (wp_block (wr (pN 1 k rfl fun a k => oE h fun x100 hx101 h => sv k rfl (r_ixa hf13 hx101 k ts38 rfl rfl rfl) fun a k => sv k rfl (r_lde hf13 (m.a00 (Enc.rd_lt hf13)) hx101 ta120 k rfl rfl) fun a k => s_alloc (cs := [.int .i64 0, .int .i64 0, .int .i64 0, .int .i64 0, .int .i64 0, .int .i64 0, .int .i64 0]) m k zeroValue120 rfl rfl rfl rfl rfl fun b102 w104 a k m e hb103 => pN 1 k rfl fun a k => s_stb (cs' := [.int .i64 x100.fId, .int .i64 x100.fW, .int .i64 x100.fH, .int .i64 x100.fD, .int .i64 x100.fGram, .int .i64 x100.fClass, .int .i64 x100.fCount]) sizeOf120 m 0 hb103 0 k rfl rfl rfl rfl rfl rfl rfl rfl rfl rfl rfl fun w105 a k e m hb106 => nn (wp_region_lit (pN 2 k rfl fun a k => ?_)))))
     refine s_bs (cs := [.int .i64 x97]) (ps := [(0, .tmp 19)]) te29 m k rfl rfl rfl rfl rfl rfl rfl (by decide) rfl (by exact (List.forall_mem_cons.2 ⟨rfl, (List.forall_mem_nil _)⟩)) fun g107 w108 e110 a k m e hb109 => ?_
     have hf111 := ow_bx hb109 ([x97] : List Int) rfl rfl rfl
     refine sv k rfl (r_fa fa120_6 k rfl rfl) fun a k => sv k rfl (r_ldb t13 m 1 hb106 6 k rfl rfl rfl rfl rfl) fun a k => oE h fun x112 hx113 h => s_call k call147 rfl rfl rfl rfl rfl (c_slices_Repeat_int_int fu _ _ (Enc.rd_agr (Enc.ow_rd hf111) (m.a 0 rfl)) hx113) fun e114 w115 hR => ?_
     obtain ⟨v120, F116, rfl, e, hf117, hfr118⟩ := hR
     refine ⟨_, rfl, fun a k => ?_⟩
     have m := m.new e F116 (fun b hb => ⟨hfr118 b hb, Enc.rd_lt (Enc.ow_rd hf117) b hb⟩) (Enc.ow_nd hf117)
     refine oE h fun x121 hx122 h => s_appF hx122 te29 rfl m 3 hf96 (News.rd (Enc.rd_agr (Enc.ow_rd hf117) (m.a 0 rfl))) rfl rfl k rfl rfl rfl rfl rfl rfl rfl fun v123 F124 w125 a k e m hf126 => pN 1 k rfl fun a k => wpList_nil (nm_block (nm_then ?_))
     refine wp_region_lit (pN 2 k rfl fun a k => nn ?_)
     exact ⟨x121, v123, F124, w125, w64 (x97 + 1), k.keep [3, 11, 12, 13] rfl, m.sel [3] rfl (by decide), hf126, h⟩
   refine wp_exit (ex_then (ex_then (ex_same (nm_then ?_))))
   refine wr (pN 2 k rfl fun a k => nn (wp_ret ?_))
   cases h
   exact finR1 k rfl (RV.tmp k rfl) ⟨_, F94, rfl, m.ext, (Enc.ow_agr hf96 (m.a 0 rfl)), (m.fresh 0 rfl)⟩
 exact ⟨([] : List Int), (.slice (some ⟨g22, 0, none⟩) 0 0), [g22], w23, 0, k.keep [3, 11, 12, 13] rfl, m.sel [0] rfl (by decide), hf26, h⟩
theorem c_impl_places (fu : Nat) {w0 : World} (n1 : Int)  {r : (List Int)}
    (h : d_impl_places fu n1 = some r) :
    Calls Tryz.prog 115 #[.int .i64 n1] w0 fun e w => ∃ (v0 : Value) (G0 : List Nat), e = .returned (v0) ∧ Ext [] w0 w ∧ ow w G0 [v0] r ∧ (∀ b ∈ G0, w0.heap.size ≤ b) := by
 refine enter (vs := [_]) func115 rfl ntmps115 rfl fun a k => ?_
 have m := St.start w0
 unfold d_impl_places at h
 refine wr (pN 1 k rfl fun a k => nn (wr (s_bs (cs := []) (ps := []) te29 m k rfl rfl rfl rfl rfl rfl rfl (by decide) rfl (by exact (List.forall_mem_nil _)) fun g2 w3 e5 a k m e hb4 => ?_)))
 have hf6 := ow_bx hb4 ([] : List Int) rfl rfl rfl
 refine pN 1 k rfl fun a k => nn (wp_seq (wr (pN 2 k rfl fun a k => nn (wp_block (c_loop (fun n a w => ∃ (out40 : List Int) (v41 : Value) (F42 : List Nat) (u43 : World) (x45 : Int), K 16 [(3, v41), (6, .int .i64 n1), (7, .int .i64 x45)] a ∧ St [] w0 w [(F42, u43)] ∧ ow u43 F42 [v41] out40 ∧ d_impl_places_L1 fu n1 n out40 x45 = some r) ?_ ?_ fu _ _ ?_)))))
 · rintro a w ⟨_, _, _, _, _, _, _, _, h⟩
   exact nS h
 · rintro m46 a w39 ⟨out40, v41, F42, u43, x45, k, m, hf44, h⟩
   rw [d_impl_places_L1_s] at h
   unfold d_impl_places_L1_B at h
   refine wr (pN 1 k rfl fun a k => nn (wp_seq (cI h k rfl (fun hb47 h => ?_) fun hb47 h => ?_)))
   · refine wp_skip (nm_then ?_)
     refine wp_seq (wp_block (wr (pN 2 k rfl fun a k => nn (wp_region_lit (pN 2 k rfl fun a k => s_bs (cs := [.int .i64 x45]) (ps := [(0, .tmp 11)]) te29 m k rfl rfl rfl rfl rfl rfl rfl (by decide) rfl (by exact (List.forall_mem_cons.2 ⟨rfl, (List.forall_mem_nil _)⟩)) fun g48 w49 e51 a k m e hb50 => ?_)))))
     have hf52 := ow_bx hb50 ([x45] : List Int) rfl rfl rfl
     refine oE h fun x53 hx54 h => s_appF hx54 te29 rfl m 1 hf44 (News.rd (Enc.rd_agr (Enc.ow_rd hf52) (m.a 0 rfl))) rfl rfl k rfl rfl rfl rfl rfl rfl rfl fun v55 F56 w57 a k e m hf58 => pN 1 k rfl fun a k => wpList_nil (nm_block (nm_then ?_))
     refine wp_region_lit (pN 2 k rfl fun a k => nn ?_)
     exact ⟨x53, v55, F56, w57, w64 (x45 + 1), k.keep [3, 6, 7] rfl, m.sel [1] rfl (by decide), hf58, h⟩
   refine wp_exit (ex_then (ex_then (ex_same (nm_then ?_))))
   refine wr (pN 2 k rfl fun a k => nn (wp_ret ?_))
   cases h
   exact finR1 k rfl (RV.tmp k rfl) ⟨_, F42, rfl, m.ext, (Enc.ow_agr hf44 (m.a 0 rfl)), (m.fresh 0 rfl)⟩
 exact ⟨([] : List Int), (.slice (some ⟨g2, 0, none⟩) 0 0), [g2], w3, 0, k.keep [3, 6, 7] rfl, m.sel [0] rfl (by decide), hf6, h⟩
theorem c_slices_Index_int_int (fu : Nat) {w0 : World} (sv1 : List Int) (v5 : Int) {v2 : Value} {F3 : List Nat} (hp4 : rd w0 F3 [v2] sv1) {r : Int}
    (h : d_slices_Index_int_int fu sv1 v5 = some r) :
    Calls Tryz.prog 168 #[v2, .int .i64 v5] w0 fun e w => e = .returned (.int .i64 r) ∧ Ext [] w0 w := by
 refine enter (vs := [_, _]) func168 rfl ntmps168 rfl fun a k => ?_
 have m := St.start w0
 unfold d_slices_Index_int_int at h
 refine wr (pN 1 k rfl fun a k => nn (wp_seq (wr (pN 1 k rfl fun a k => sv k rfl (r_len (α := Int) hp4 k underlying29 rfl rfl) fun a k => pN 1 k rfl fun a k => nn (wp_block (c_loop (fun n a w => ∃ (x18 : Int), K 19 [(0, v2), (1, .int .i64 v5), (7, .int .i64 ((sv1.length : Int))), (8, .int .i64 x18)] a ∧ St [] w0 w [] ∧ d_slices_Index_int_int_L1 fu sv1 v5 n x18 = some r) ?_ ?_ fu _ _ ?_))))))
 · rintro a w ⟨_, _, _, h⟩
   exact nS h
 · rintro m19 a w17 ⟨x18, k, m, h⟩
   rw [d_slices_Index_int_int_L1_s] at h
   unfold d_slices_Index_int_int_L1_B at h
   refine wr (pN 1 k rfl fun a k => nn (wp_seq (cI h k rfl (fun hb20 h => ?_) fun hb20 h => ?_)))
   · refine wp_skip (nm_then ?_)
     refine wp_seq (wp_block (wr (pN 2 k rfl fun a k => nn (wr (pN 3 k rfl fun a k => oE h fun x21 hx22 h => sv k rfl (r_ixa hp4 hx22 k ts29 rfl rfl rfl) fun a k => sv k rfl (r_lde1 hp4 (m.a00 (Enc.rd_lt hp4)) hx22 0 t13 k rfl rfl rfl rfl) fun a k => pN 1 k rfl fun a k => nn (cI h k rfl (fun hb23 h => ?_) fun hb23 h => ?_))))))
     · refine wr (pN 2 k rfl fun a k => nn (wp_ret (rt_block (rt_then (rt_then (rt_block (rt_then ?_)))))))
       refine fS h k m rfl rfl
     refine wp_skip (nm_block (nm_then ?_))
     refine wp_region_lit (pN 2 k rfl fun a k => nn ?_)
     exact ⟨w64 (x18 + 1), k.keep [0, 1, 7, 8] rfl, m.sel [] rfl (by decide), h⟩
   refine wp_exit (ex_then (ex_then (ex_same (nm_then ?_))))
   refine wr (pN 1 k rfl fun a k => nn (wp_ret (fS h k m rfl rfl)))
 exact ⟨0, k.keep [0, 1, 7, 8] rfl, m.sel [] rfl (by decide), h⟩
theorem c_slices_Contains_int_int (fu : Nat) {w0 : World} (sv1 : List Int) (v5 : Int) {v2 : Value} {F3 : List Nat} (hp4 : rd w0 F3 [v2] sv1) {r : Bool}
    (h : d_slices_Contains_int_int fu sv1 v5 = some r) :
    Calls Tryz.prog 127 #[v2, .int .i64 v5] w0 fun e w => e = .returned (.bool (r)) ∧ Ext [] w0 w := by
 refine enter (vs := [_, _]) func127 rfl ntmps127 rfl fun a k => ?_
 have m := St.start w0
 unfold d_slices_Contains_int_int at h
 refine wr (pN 1 k rfl fun a k => nn (wr (pN 2 k rfl fun a k => oE h fun x6 hx7 h => cE k m call168 rfl rfl rfl (c_slices_Index_int_int fu _ _ (Enc.rd_agr hp4 (m.a00 (Enc.rd_lt hp4))) hx7) fun w9 e a k m => pN 2 k rfl fun a k => nn (wp_ret (fS h k m rfl rfl)))))
theorem c_impl_Lost_1 (fu : Nat) {w0 : World} (u1 : Int) (x2 : List Int) {v5 : Value} {F6 : List Nat} {b3 : Nat} (hp4 : bx w0 b3 [v5] 29) (hp7 : rd w0 F6 [v5] x2) {r : Bool}
    (h : d_impl_Lost_1 fu u1 x2 = some r) :
    Calls Tryz.prog 126 #[.int .i64 u1, .pointer (some (⟨b3, 0, none⟩ : Addr))] w0 fun e w => e = .returned (.bool (r)) ∧ Ext [] w0 w := by
 refine enter (vs := [_, _]) func126 rfl ntmps126 rfl fun a k => ?_
 have m := St.start w0
 unfold d_impl_Lost_1 at h
 refine wr (pN 1 k rfl fun a k => nn (wr (sv k rfl (r_ld1 t129 (r := []) (hp4.at (m.a00 hp4.lt1) 0 1 rfl rfl rfl) k rfl rfl) fun a k => pN 1 k rfl fun a k => oE h fun x8 hx9 h => cE k m call127 rfl rfl rfl (c_slices_Contains_int_int fu _ _ (Enc.rd_agr hp7 (m.a00 (Enc.rd_lt hp7))) hx9) fun w11 e a k m => pN 1 k rfl fun a k => nn (wp_ret (fS h k m rfl rfl)))))
theorem c_slices_IndexFunc_int_int (fu : Nat) {w0 : World} (sv1 : List Int) (f5 : Int → Option Bool) {v2 : Value} {F3 : List Nat} (hp4 : rd w0 F3 [v2] sv1) {v6 : Value} (hp7 : FnOk1 Tryz.prog w0 v6 f5) {r : Int}
    (h : d_slices_IndexFunc_int_int fu sv1 f5 = some r) :
    Calls Tryz.prog 166 #[v2, v6] w0 fun e w => e = .returned (.int .i64 r) ∧ Ext [] w0 w := by
 refine enter (vs := [_, _]) func166 rfl ntmps166 rfl fun a k => ?_
 have m := St.start w0
 obtain ⟨fid8, cap9, rfl, hcl10, hcc11⟩ := hp7
 unfold d_slices_IndexFunc_int_int at h
 refine wr (pN 1 k rfl fun a k => nn (wp_seq (wr (pN 1 k rfl fun a k => sv k rfl (r_len (α := Int) hp4 k underlying29 rfl rfl) fun a k => pN 1 k rfl fun a k => nn (wp_block (c_loop (fun n a w => ∃ (x32 : Int), K 19 [(0, v2), (1, (.func (.func fid8) #[] cap9.toArray)), (7, .int .i64 ((sv1.length : Int))), (8, .int .i64 x32)] a ∧ St [] w0 w [] ∧ d_slices_IndexFunc_int_int_L1 fu sv1 f5 n x32 = some r) ?_ ?_ fu _ _ ?_))))))
 · rintro a w ⟨_, _, _, h⟩
   exact nS h
 · rintro m33 a w31 ⟨x32, k, m, h⟩
   rw [d_slices_IndexFunc_int_int_L1_s] at h
   unfold d_slices_IndexFunc_int_int_L1_B at h
   refine wr (pN 1 k rfl fun a k => nn (wp_seq (cI h k rfl (fun hb34 h => ?_) fun hb34 h => ?_)))
   · refine wp_skip (nm_then ?_)
     refine wp_seq (wp_block (wr (pN 2 k rfl fun a k => nn (wr (pN 3 k rfl fun a k => oE h fun x35 hx36 h => sv k rfl (r_ixa hp4 hx36 k ts29 rfl rfl rfl) fun a k => sv k rfl (r_lde1 hp4 (m.a00 (Enc.rd_lt hp4)) hx36 0 t13 k rfl rfl rfl rfl) fun a k => oE h fun x37 hx38 h => s_callv k hcl10 rfl rfl rfl rfl rfl rfl (hcc11 _ _ _ _ m.ext rfl hx38) fun e39 w40 hR => ?_)))))
     obtain ⟨rfl, e⟩ := hR
     refine ⟨_, rfl, fun a k => ?_⟩
     have m := m.step e
     refine nn (cI h k rfl (fun hb41 h => ?_) fun hb41 h => ?_)
     · refine wr (pN 2 k rfl fun a k => nn (wp_ret (rt_block (rt_then (rt_then (rt_block (rt_then ?_)))))))
       refine fS h k m rfl rfl
     refine wp_skip (nm_block (nm_then ?_))
     refine wp_region_lit (pN 2 k rfl fun a k => nn ?_)
     exact ⟨w64 (x32 + 1), k.keep [0, 1, 7, 8] rfl, m.sel [] rfl (by decide), h⟩
   refine wp_exit (ex_then (ex_then (ex_same (nm_then ?_))))
   refine wr (pN 1 k rfl fun a k => nn (wp_ret (fS h k m rfl rfl)))
 exact ⟨0, k.keep [0, 1, 7, 8] rfl, m.sel [] rfl (by decide), h⟩
theorem c_slices_DeleteFunc_int_int (fu : Nat) {w0 : World} (sv1 : List Int) (f5 : Int → Option Bool) {v2 : Value} {F3 : List Nat} (hp4 : ow w0 F3 [v2] sv1) {v6 : Value} (hp7 : FnOkX1 F3 Tryz.prog w0 v6 f5) {r : (List Int)}
    (h : d_slices_DeleteFunc_int_int fu sv1 f5 = some r) :
    Calls Tryz.prog 125 #[v2, v6] w0 fun e w => ∃ (v0 : Value) (G0 : List Nat), e = .returned (v0) ∧ Ext F3 w0 w ∧ ow w G0 [v0] r ∧ (∀ b ∈ G0, b ∈ F3 ∨ w0.heap.size ≤ b) := by
 refine enter (vs := [_, _]) func125 rfl ntmps125 rfl fun a k => ?_
 have m := St.start1 w0 (Enc.rd_lt (Enc.ow_rd hp4)) (Enc.ow_nd hp4)
 obtain ⟨fid8, cap9, rfl, hcl10, hcc11⟩ := hp7
 unfold d_slices_DeleteFunc_int_int at h
 refine wr (pN 1 k rfl fun a k => nn (wr (pN 2 k rfl fun a k => oE h fun x14 hx15 h => cE k m call166 rfl rfl rfl (c_slices_IndexFunc_int_int fu _ _ (Enc.rd_agr (Enc.ow_rd hp4) (m.a 0 rfl)) ⟨_, _, rfl, hcl10, fun w y12 v13 r e => hcc11 w y12 v13 r (m.ext.trans e (by simp))⟩ hx15) fun w17 e a k m => pN 1 k rfl fun a k => nn (wp_seq (wr (pN 2 k rfl fun a k => nn (cI h k rfl (fun hb18 h => ?_) fun hb18 h => ?_)))))))
 · refine wr (pN 2 k rfl fun a k => nn (wp_ret (rt_then ?_)))
   cases h
   exact finR1 k rfl (RV.tmp k rfl) ⟨_, F3, rfl, m.ext, (Enc.ow_agr hp4 (m.a 0 rfl)), (fun b hb => m.lo b (mem_fps (i := 0) rfl hb))⟩
 refine wp_skip (nm_then ?_)
 refine wp_seq (wr (pN 3 k rfl fun a k => nn (wp_block (c_loop (fun n a w => ∃ (x83 : List Int) (u84 : World) (i86 : Int) (j87 : Int), K 42 [(0, v2), (1, (.func (.func fid8) #[] cap9.toArray)), (5, .int .i64 i86), (6, .int .i64 j87)] a ∧ St F3 w0 w [(F3, u84)] ∧ ow u84 F3 [v2] x83 ∧ d_slices_DeleteFunc_int_int_L1 fu f5 n x83 i86 j87 = some r) ?_ ?_ fu _ _ ?_))))
 · rintro a w ⟨_, _, _, _, _, _, _, h⟩
   exact nS h
 · rintro m88 a w82 ⟨x83, u84, i86, j87, k, m, hf85, h⟩
   rw [d_slices_DeleteFunc_int_int_L1_s] at h
   unfold d_slices_DeleteFunc_int_int_L1_B at h
   refine wp_seq (wr (pN 2 k rfl fun a k => sv k rfl (r_len (α := Int) (Enc.ow_rd hf85) k underlying29 rfl rfl) fun a k => pN 1 k rfl fun a k => nn (cI h k rfl (fun hb89 h => ?_) fun hb89 h => ?_)))
   · refine wp_skip (nm_then ?_)
     refine c_cut (fun a w => ∃ (x102 : List Int) (u103 : World) (i105 : Int), K 42 [(0, v2), (1, (.func (.func fid8) #[] cap9.toArray)), (5, .int .i64 i105), (6, .int .i64 j87)] a ∧ St F3 w0 w [(F3, u103)] ∧ ow u103 F3 [v2] x102 ∧ d_slices_DeleteFunc_int_int_J1 fu (d_slices_DeleteFunc_int_int_L1 fu f5 m88) j87 x102 i105 = some r) ?_ ?_
     · rintro a w101 ⟨x102, u103, i105, k, m, hf104, h⟩
       unfold d_slices_DeleteFunc_int_int_J1 at h
       refine wp_region_lit (pN 3 k rfl fun a k => nn ?_)
       exact ⟨x102, u103, i105, w64 (j87 + 1), k.keep [0, 1, 5, 6] rfl, m.sel [0] rfl (by decide), hf104, h⟩
     refine wp_block (wr (pN 2 k rfl fun a k => oE h fun x106 hx107 h => sv k rfl (r_ixa (Enc.ow_rd hf85) hx107 k ts29 rfl rfl rfl) fun a k => sv k rfl (r_lde1 (Enc.ow_rd hf85) (m.a 0 rfl) hx107 0 t13 k rfl rfl rfl rfl) fun a k => pN 1 k rfl fun a k => nn (wr (pN 2 k rfl fun a k => oE h fun x108 hx109 h => s_callv k hcl10 rfl rfl rfl rfl rfl rfl (hcc11 _ _ _ _ m.ext rfl hx109) fun e110 w111 hR => ?_))))
     obtain ⟨rfl, e⟩ := hR
     refine ⟨_, rfl, fun a k => ?_⟩
     have m := m.step e
     refine pN 1 k rfl fun a k => nn (cI h k rfl (fun hb112 h => ?_) fun hb112 h => ?_)
     · refine wr (pN 3 k rfl fun a k => oE h fun x113 hx114 h => sv k rfl (r_ixa (Enc.ow_rd hf85) hx114 k ts29 rfl rfl rfl) fun a k => s_ste (α := Int) (sz := 1) (y := x106) sizeOf3 hx114 m 0 hf85 0 k rfl rfl rfl rfl rfl rfl rfl rfl rfl rfl rfl rfl fun w115 a k e m hf116 => nn (wp_region_lit (pN 3 k rfl fun a k => wpList_nil (nm_block (nm_then ?_)))))
       exact ⟨setx x83 i86 x106, w115, w64 (i86 + 1), k.keep [0, 1, 5, 6] rfl, m.sel [0] rfl (by decide), hf116, h⟩
     refine wp_skip (nm_block (nm_then ?_))
     exact ⟨x83, u84, i86, k.keep [0, 1, 5, 6] rfl, m.sel [0] rfl (by decide), hf85, h⟩
   refine wp_exit (ex_then (ex_then (ex_same (nm_then ?_))))
   refine wr (pN 2 k rfl fun a k => oE h fun x117 hx118 h => s_slFromP (Enc.ow_rd hf85) hx118 k ts29 rfl rfl rfl rfl rfl rfl fun v119 a k hf120 hP121 => s_clr (lo := i86) te29 m 0 hf85 hP121 k rfl rfl rfl rfl rfl fun w122 a k e m hf123 => nn (wr (pN 2 k rfl fun a k => oE h fun x124 hx125 h => s_slToO hf123 hx125 k ts29 rfl rfl rfl rfl rfl rfl fun v126 a k hf127 => pN 1 k rfl fun a k => nn (wp_ret ?_))))
   cases h
   exact finR1 k rfl (RV.tmp k rfl) ⟨_, F3, rfl, m.ext, (Enc.ow_agr hf127 (m.a 0 rfl)), (fun b hb => m.lo b (mem_fps (i := 0) rfl hb))⟩
 exact ⟨sv1, w0, x14, w64 (x14 + 1), k.keep [0, 1, 5, 6] rfl, m.sel [0] rfl (by decide), hp4, h⟩
theorem c_impl_Lost (fu : Nat) {w0 : World} (r1 : Request) (x5 : Plan) {cs2 : List Value} {F3 : List Nat} (hp4 : rd w0 F3 cs2 r1) {cs6 : List Value} {F7 : List Nat} (hp8 : rd w0 F7 cs6 x5) {r : (List Int)}
    (h : d_impl_Lost fu r1 x5 = some r) :
    Calls Tryz.prog 58 #[.agg cs2.toArray, .agg cs6.toArray] w0 fun e w => ∃ (v0 : Value) (G0 : List Nat), e = .returned (v0) ∧ Ext [] w0 w ∧ ow w G0 [v0] r ∧ (∀ b ∈ G0, w0.heap.size ≤ b) := by
 refine enter (vs := [_, _]) func58 rfl ntmps58 rfl fun a k => ?_
 have m := St.start w0
 obtain ⟨v9, F10, v11, F12, v13, F14, rfl, rfl, hf15, hf16, hf17⟩ := hp4
 obtain ⟨v18, F19, v20, F21, rfl, rfl, hf22, hf23⟩ := hp8
 unfold d_impl_Lost at h
 refine wr (s_box (cs := [.int .i64 r1.fWay, .int .i64 r1.fPallet.fW, .int .i64 r1.fPallet.fD, .int .i64 r1.fPallet.fH, .int .i64 r1.fPallet.fGram, .int .i64 r1.fClasses, v9, v11, .int .i64 r1.fMaster, v13]) m k rfl rfl rfl rfl rfl rfl fun b24 w26 a k m e hb25 => s_box (cs := [v18, v20]) m k rfl rfl rfl rfl rfl rfl fun b27 w29 a k m e hb28 => pN 1 k rfl fun a k => nn (wr (sv k rfl (r_ldB ta82 m 0 hb28 0 k rfl rfl rfl rfl rfl rfl) fun a k => oE h fun x30 hx31 h => s_call k call124 rfl rfl rfl rfl rfl (c_impl_allUnits fu _ (show rd _ _ [v18, v20] (x5 : Plan) from ⟨_, _, _, _, rfl, rfl, (Enc.rd_agr hf22 (m.a00 (Enc.rd_lt hf22))), (Enc.rd_agr hf23 (m.a00 (Enc.rd_lt hf23)))⟩) hx31) fun e32 w33 hR => ?_)))
 obtain ⟨v38, F34, rfl, e, hf35, hfr36⟩ := hR
 refine ⟨_, rfl, fun a k => ?_⟩
 have m := m.new e F34 (fun b hb => ⟨hfr36 b hb, Enc.rd_lt (Enc.ow_rd hf35) b hb⟩) (Enc.ow_nd hf35)
 refine s_alloc (cs := [.slice none 0 0]) m k zeroValue29 rfl rfl rfl rfl rfl fun b39 w41 a k m e hb40 => s_stb1 (cs' := [v38]) sizeOf29 m 0 hb40 0 k (rd_c (Enc.ow_rd hf35)) (rd_o (Enc.ow_rd hf35)) rfl rfl rfl rfl rfl rfl rfl rfl rfl fun w42 a k e m hb43 => nn (wr (sv k rfl (r_ldB ta40 m 3 hb25 0 k rfl rfl rfl rfl rfl rfl) fun a k => oE h fun x44 hx45 h => s_call k call84 rfl rfl rfl rfl rfl (c_impl_Units fu _ (show rd _ _ [.int .i64 r1.fWay, .int .i64 r1.fPallet.fW, .int .i64 r1.fPallet.fD, .int .i64 r1.fPallet.fH, .int .i64 r1.fPallet.fGram, .int .i64 r1.fClasses, v9, v11, .int .i64 r1.fMaster, v13] (r1 : Request) from ⟨_, _, _, _, _, _, rfl, rfl, (Enc.rd_agr hf15 (m.a00 (Enc.rd_lt hf15))), (Enc.rd_agr hf16 (m.a00 (Enc.rd_lt hf16))), (Enc.rd_agr hf17 (m.a00 (Enc.rd_lt hf17)))⟩) hx45) fun e46 w47 hR => ?_))
 obtain ⟨v52, F48, rfl, e, hf49, hfr50⟩ := hR
 refine ⟨_, rfl, fun a k => ?_⟩
 have m := m.new e F48 (fun b hb => ⟨hfr50 b hb, Enc.rd_lt (Enc.ow_rd hf49) b hb⟩) (Enc.ow_nd hf49)
 refine sv k rfl (r_len (α := Int) (Enc.ow_rd hf49) k underlying29 rfl rfl) fun a k => oE h fun x53 hx54 h => s_call k call115 rfl rfl rfl rfl rfl (c_impl_places fu _  hx54) fun e55 w56 hR => ?_
 obtain ⟨v61, F57, rfl, e, hf58, hfr59⟩ := hR
 refine ⟨_, rfl, fun a k => ?_⟩
 have m := m.new e F57 (fun b hb => ⟨hfr59 b hb, Enc.rd_lt (Enc.ow_rd hf58) b hb⟩) (Enc.ow_nd hf58)
 refine pN 1 k rfl fun a k => oE h fun x65 hx66 h => s_call k call125 rfl rfl rfl rfl rfl (c_slices_DeleteFunc_int_int fu _ _ (Enc.ow_agr hf58 (m.a 0 rfl)) ⟨126, [.pointer (some (⟨b39, 0, none⟩ : Addr))], rfl, call126, fun w y62 v63 r e hv64 hx => by subst hv64; have m := m.mut 0 rfl e F57 (fun b hb => ⟨.inl hb, e.lt1 (m.ltF 0 rfl) b hb⟩) (m.ndF 0 rfl); exact c_impl_Lost_1 fu _ _ (hb43.agr (m.a 2 rfl) (by simp)) (Enc.rd_agr (Enc.ow_rd hf35) (m.a 3 rfl)) hx⟩ hx66) fun e67 w68 hR => ?_
 obtain ⟨v72, F69, rfl, e, hf70, hlo71⟩ := hR
 refine ⟨_, rfl, fun a k => ?_⟩
 have m := m.mut 0 rfl e _ (fun b hb => ⟨hlo71 b hb, Enc.rd_lt (Enc.ow_rd hf70) b hb⟩) (Enc.ow_nd hf70)
 refine pN 1 k rfl fun a k => nn (wp_ret ?_)
 cases h
 exact finR1 k rfl (RV.tmp k rfl) ⟨_, F69, rfl, m.ext, (Enc.ow_agr hf70 (m.a 0 rfl)), (m.fresh 0 rfl)⟩
theorem c_laws_eqIntS (fu : Nat) {w0 : World} (a1 : List Int) (b5 : List Int) {v2 : Value} {F3 : List Nat} (hp4 : rd w0 F3 [v2] a1) {v6 : Value} {F7 : List Nat} (hp8 : rd w0 F7 [v6] b5) {r : Bool}
    (h : d_laws_eqIntS fu a1 b5 = some r) :
    Calls Tryz.prog 43 #[v2, v6] w0 fun e w => e = .returned (.bool (r)) ∧ Ext [] w0 w := by
 refine enter (vs := [_, _]) func43 rfl ntmps43 rfl fun a k => ?_
 have m := St.start w0
 unfold d_laws_eqIntS at h
 refine wr (pN 1 k rfl fun a k => nn (wp_seq (wr (pN 1 k rfl fun a k => sv k rfl (r_len (α := Int) hp4 k underlying29 rfl rfl) fun a k => pN 1 k rfl fun a k => sv k rfl (r_len (α := Int) hp8 k underlying29 rfl rfl) fun a k => pN 1 k rfl fun a k => nn (cI h k rfl (fun hb9 h => ?_) fun hb9 h => ?_)))))
 · refine wr (pN 1 k rfl fun a k => nn (wp_ret (rt_then ?_)))
   refine fS h k m rfl rfl
 refine wp_skip (nm_then ?_)
 refine wp_seq (wr (pN 1 k rfl fun a k => nn (wp_block (c_loop (fun n a w => ∃ (i28 : Int), K 26 [(0, v2), (1, v6), (5, .int .i64 i28)] a ∧ St [] w0 w [] ∧ d_laws_eqIntS_L1 fu a1 b5 n i28 = some r) ?_ ?_ fu _ _ ?_))))
 · rintro a w ⟨_, _, _, h⟩
   exact nS h
 · rintro m29 a w27 ⟨i28, k, m, h⟩
   rw [d_laws_eqIntS_L1_s] at h
   unfold d_laws_eqIntS_L1_B at h
   refine wp_seq (wr (pN 2 k rfl fun a k => sv k rfl (r_len (α := Int) hp4 k underlying29 rfl rfl) fun a k => pN 1 k rfl fun a k => nn (cI h k rfl (fun hb30 h => ?_) fun hb30 h => ?_)))
   · refine wp_skip (nm_then ?_)
     refine wp_seq (wp_block (wp_seq (d_go [] mixo m rfl fun w31 hMd => ?_)))
     have m := hMd
     have s := Ext.refl ([] : List Nat) w31
     refine dp k 0 rfl (by kernel_rfl) rfl s (fun _ _ _ => id) rfl fun a k => dp k 1 rfl (by kernel_rfl) rfl s (fun _ _ _ => id) rfl fun a k => oE h fun x32 hx33 h => dt k 2 rfl (by kernel_rfl) rfl s (fun _ _ _ => id) (fun w s => r_ixa hp4 hx33 k ts29 rfl rfl rfl) fun a k => dt k 3 rfl (by kernel_rfl) rfl s (fun _ _ _ => id) (fun w s => r_lde1 hp4 ((hMd.step s).a00 (Enc.rd_lt hp4)) hx33 0 t13 k rfl rfl rfl rfl) fun a k => dp k 4 rfl (by kernel_rfl) rfl s (fun _ _ _ => id) rfl fun a k => dp k 5 rfl (by kernel_rfl) rfl s (fun _ _ _ => id) rfl fun a k => oE h fun x34 hx35 h => dt k 6 rfl (by kernel_rfl) rfl s (fun _ _ _ => id) (fun w s => r_ixa hp8 hx35 k ts29 rfl rfl rfl) fun a k => dt k 7 rfl (by kernel_rfl) rfl s (fun _ _ _ => id) (fun w s => r_lde1 hp8 ((hMd.step s).a00 (Enc.rd_lt hp8)) hx35 0 t13 k rfl rfl rfl rfl) fun a k => ?_
     refine dp k 8 rfl (by kernel_rfl) rfl s (fun _ _ _ => id) rfl fun a k => d_done (by kernel_rfl) ((nm_then ?_))
     refine cI h k rfl (fun hb36 h => ?_) fun hb36 h => ?_
     · refine wr (pN 1 k rfl fun a k => nn (wp_ret (rt_block (rt_then (rt_then (rt_block (rt_then ?_)))))))
       refine fS h k m rfl rfl
     refine wp_skip (nm_block (nm_then ?_))
     refine wp_region_lit (pN 3 k rfl fun a k => nn ?_)
     exact ⟨w64 (i28 + 1), k.keep [0, 1, 5] rfl, m.sel [] rfl (by decide), h⟩
   refine wp_exit (ex_then (ex_then (ex_same (nm_then ?_))))
   refine wr (pN 1 k rfl fun a k => nn (wp_ret (fS h k m rfl rfl)))
 exact ⟨0, k.keep [0, 1, 5] rfl, m.sel [] rfl (by decide), h⟩
theorem c_laws_eqPallet (fu : Nat) {w0 : World} (a1 : Pallet) (b2 : Pallet)  {r : Bool}
    (h : d_laws_eqPallet fu a1 b2 = some r) :
    Calls Tryz.prog 79 #[.agg (Flat.e (a1)).toArray, .agg (Flat.e (b2)).toArray] w0 fun e w => e = .returned (.bool (r)) ∧ Ext [] w0 w := by
 refine enter (vs := [_, _]) func79 rfl ntmps79 rfl fun a k => ?_
 have m := St.start w0
 unfold d_laws_eqPallet at h
 refine wr (s_box (cs := [.int .i64 a1.fW, .int .i64 a1.fD, .int .i64 a1.fH, .int .i64 a1.fGram]) m k rfl rfl rfl rfl rfl rfl fun b3 w5 a k m e hb4 => s_box (cs := [.int .i64 b2.fW, .int .i64 b2.fD, .int .i64 b2.fH, .int .i64 b2.fGram]) m k rfl rfl rfl rfl rfl rfl fun b6 w8 a k m e hb7 => pN 1 k rfl fun a k => nn (wp_seq (wr (sv k rfl (r_fa fa35_0 k rfl rfl) fun a k => sv k rfl (r_ldb t13 m 1 hb4 0 k rfl rfl rfl rfl rfl) fun a k => sv k rfl (r_fa fa35_0 k rfl rfl) fun a k => sv k rfl (r_ldb t13 m 0 hb7 0 k rfl rfl rfl rfl rfl) fun a k => pN 1 k rfl fun a k => nn (cI h k rfl (fun hb9 h => ?_) fun hb9 h => ?_)))))
 · refine wr (pN 1 k rfl fun a k => nn (wp_ret (rt_then ?_)))
   refine fS h k m rfl rfl
 refine wp_skip (nm_then ?_)
 refine wp_seq (wr (sv k rfl (r_fa fa35_1 k rfl rfl) fun a k => sv k rfl (r_ldb t13 m 1 hb4 1 k rfl rfl rfl rfl rfl) fun a k => sv k rfl (r_fa fa35_1 k rfl rfl) fun a k => sv k rfl (r_ldb t13 m 0 hb7 1 k rfl rfl rfl rfl rfl) fun a k => pN 1 k rfl fun a k => nn (cI h k rfl (fun hb10 h => ?_) fun hb10 h => ?_)))
 · refine wr (pN 1 k rfl fun a k => nn (wp_ret (rt_then ?_)))
   refine fS h k m rfl rfl
 refine wp_skip (nm_then ?_)
 refine wp_seq (wr (sv k rfl (r_fa fa35_2 k rfl rfl) fun a k => sv k rfl (r_ldb t13 m 1 hb4 2 k rfl rfl rfl rfl rfl) fun a k => sv k rfl (r_fa fa35_2 k rfl rfl) fun a k => sv k rfl (r_ldb t13 m 0 hb7 2 k rfl rfl rfl rfl rfl) fun a k => pN 1 k rfl fun a k => nn (cI h k rfl (fun hb11 h => ?_) fun hb11 h => ?_)))
 · refine wr (pN 1 k rfl fun a k => nn (wp_ret (rt_then ?_)))
   refine fS h k m rfl rfl
 refine wp_skip (nm_then ?_)
 refine wp_seq (wr (sv k rfl (r_fa fa35_3 k rfl rfl) fun a k => sv k rfl (r_ldb t13 m 1 hb4 3 k rfl rfl rfl rfl rfl) fun a k => sv k rfl (r_fa fa35_3 k rfl rfl) fun a k => sv k rfl (r_ldb t13 m 0 hb7 3 k rfl rfl rfl rfl rfl) fun a k => pN 1 k rfl fun a k => nn (cI h k rfl (fun hb12 h => ?_) fun hb12 h => ?_)))
 · refine wr (pN 1 k rfl fun a k => nn (wp_ret (rt_then ?_)))
   refine fS h k m rfl rfl
 refine wp_skip (nm_then ?_)
 refine wr (pN 1 k rfl fun a k => nn (wp_ret (fS h k m rfl rfl)))
theorem c_laws_eqPair (fu : Nat) {w0 : World} (a1 : Pair) (b2 : Pair)  {r : Bool}
    (h : d_laws_eqPair fu a1 b2 = some r) :
    Calls Tryz.prog 144 #[.agg (Flat.e (a1)).toArray, .agg (Flat.e (b2)).toArray] w0 fun e w => e = .returned (.bool (r)) ∧ Ext [] w0 w := by
 refine enter (vs := [_, _]) func144 rfl ntmps144 rfl fun a k => ?_
 have m := St.start w0
 unfold d_laws_eqPair at h
 refine wr (s_box (cs := [.int .i64 a1.fA, .int .i64 a1.fB]) m k rfl rfl rfl rfl rfl rfl fun b3 w5 a k m e hb4 => s_box (cs := [.int .i64 b2.fA, .int .i64 b2.fB]) m k rfl rfl rfl rfl rfl rfl fun b6 w8 a k m e hb7 => pN 1 k rfl fun a k => nn (wp_seq (wr (sv k rfl (r_fa fa144_0 k rfl rfl) fun a k => sv k rfl (r_ldb t13 m 1 hb4 0 k rfl rfl rfl rfl rfl) fun a k => sv k rfl (r_fa fa144_0 k rfl rfl) fun a k => sv k rfl (r_ldb t13 m 0 hb7 0 k rfl rfl rfl rfl rfl) fun a k => pN 1 k rfl fun a k => nn (cI h k rfl (fun hb9 h => ?_) fun hb9 h => ?_)))))
 · refine wr (pN 1 k rfl fun a k => nn (wp_ret (rt_then ?_)))
   refine fS h k m rfl rfl
 refine wp_skip (nm_then ?_)
 refine wp_seq (wr (sv k rfl (r_fa fa144_1 k rfl rfl) fun a k => sv k rfl (r_ldb t13 m 1 hb4 1 k rfl rfl rfl rfl rfl) fun a k => sv k rfl (r_fa fa144_1 k rfl rfl) fun a k => sv k rfl (r_ldb t13 m 0 hb7 1 k rfl rfl rfl rfl rfl) fun a k => pN 1 k rfl fun a k => nn (cI h k rfl (fun hb10 h => ?_) fun hb10 h => ?_)))
 · refine wr (pN 1 k rfl fun a k => nn (wp_ret (rt_then ?_)))
   refine fS h k m rfl rfl
 refine wp_skip (nm_then ?_)
 refine wr (pN 1 k rfl fun a k => nn (wp_ret (fS h k m rfl rfl)))
theorem c_laws_eqPairS (fu : Nat) {w0 : World} (a1 : List Pair) (b5 : List Pair) {v2 : Value} {F3 : List Nat} (hp4 : rd w0 F3 [v2] a1) {v6 : Value} {F7 : List Nat} (hp8 : rd w0 F7 [v6] b5) {r : Bool}
    (h : d_laws_eqPairS fu a1 b5 = some r) :
    Calls Tryz.prog 80 #[v2, v6] w0 fun e w => e = .returned (.bool (r)) ∧ Ext [] w0 w := by
 refine enter (vs := [_, _]) func80 rfl ntmps80 rfl fun a k => ?_
 have m := St.start w0
 unfold d_laws_eqPairS at h
 refine wr (pN 1 k rfl fun a k => nn (wp_seq (wr (pN 1 k rfl fun a k => sv k rfl (r_len (α := Pair) hp4 k underlying36 rfl rfl) fun a k => pN 1 k rfl fun a k => sv k rfl (r_len (α := Pair) hp8 k underlying36 rfl rfl) fun a k => pN 1 k rfl fun a k => nn (cI h k rfl (fun hb9 h => ?_) fun hb9 h => ?_)))))
 · refine wr (pN 1 k rfl fun a k => nn (wp_ret (rt_then ?_)))
   refine fS h k m rfl rfl
 refine wp_skip (nm_then ?_)
 refine wp_seq (wr (pN 1 k rfl fun a k => nn (wp_block (c_loop (fun n a w => ∃ (i36 : Int), K 27 [(0, v2), (1, v6), (5, .int .i64 i36)] a ∧ St [] w0 w [] ∧ d_laws_eqPairS_L1 fu a1 b5 n i36 = some r) ?_ ?_ fu _ _ ?_))))
 · rintro a w ⟨_, _, _, h⟩
   exact nS h
 · rintro m37 a w35 ⟨i36, k, m, h⟩
   rw [d_laws_eqPairS_L1_s] at h
   unfold d_laws_eqPairS_L1_B at h
   refine wp_seq (wr (pN 2 k rfl fun a k => sv k rfl (r_len (α := Pair) hp4 k underlying36 rfl rfl) fun a k => pN 1 k rfl fun a k => nn (cI h k rfl (fun hb38 h => ?_) fun hb38 h => ?_)))
   · refine wp_skip (nm_then ?_)
     refine wp_seq (wp_block (wp_seq (d_go [] mixo m rfl fun w39 hMd => ?_)))
     have m := hMd
     have s := Ext.refl ([] : List Nat) w39
     refine dp k 0 rfl (by kernel_rfl) rfl s (fun _ _ _ => id) rfl fun a k => dp k 1 rfl (by kernel_rfl) rfl s (fun _ _ _ => id) rfl fun a k => oE h fun x40 hx41 h => dt k 2 rfl (by kernel_rfl) rfl s (fun _ _ _ => id) (fun w s => r_ixa hp4 hx41 k ts36 rfl rfl rfl) fun a k => dt k 3 rfl (by kernel_rfl) rfl s (fun _ _ _ => id) (fun w s => r_lde hp4 ((hMd.step s).a00 (Enc.rd_lt hp4)) hx41 ta144 k rfl rfl) fun a k => dp k 4 rfl (by kernel_rfl) rfl s (fun _ _ _ => id) rfl fun a k => dp k 5 rfl (by kernel_rfl) rfl s (fun _ _ _ => id) rfl fun a k => oE h fun x42 hx43 h => dt k 6 rfl (by kernel_rfl) rfl s (fun _ _ _ => id) (fun w s => r_ixa hp8 hx43 k ts36 rfl rfl rfl) fun a k => dt k 7 rfl (by kernel_rfl) rfl s (fun _ _ _ => id) (fun w s => r_lde hp8 ((hMd.step s).a00 (Enc.rd_lt hp8)) hx43 ta144 k rfl rfl) fun a k => d_one 8 (by kernel_rfl) rfl ?_
     refine oE h fun x44 hx45 h => cE k m call144 rfl rfl rfl (c_laws_eqPair fu (x40 : Pair) (x42 : Pair)  hx45) fun w47 e a k m => ?_
     have s := s.trans e (by simp)
     refine wpList_nil ⟨s, ?_⟩
     refine dp k 9 rfl (by kernel_rfl) rfl s (fun _ _ _ => id) rfl fun a k => d_done (by kernel_rfl) ((nm_then ?_))
     refine cI h k rfl (fun hb48 h => ?_) fun hb48 h => ?_
     · refine wr (pN 1 k rfl fun a k => nn (wp_ret (rt_block (rt_then (rt_then (rt_block (rt_then ?_)))))))
       refine fS h k m rfl rfl
     refine wp_skip (nm_block (nm_then ?_))
     refine wp_region_lit (pN 3 k rfl fun a k => nn ?_)
     exact ⟨w64 (i36 + 1), k.keep [0, 1, 5] rfl, m.sel [] rfl (by decide), h⟩
   refine wp_exit (ex_then (ex_then (ex_same (nm_then ?_))))
   refine wr (pN 1 k rfl fun a k => nn (wp_ret (fS h k m rfl rfl)))
 exact ⟨0, k.keep [0, 1, 5] rfl, m.sel [] rfl (by decide), h⟩
theorem c_laws_eqType (fu : Nat) {w0 : World} (a1 : Typ) (b2 : Typ)  {r : Bool}
    (h : d_laws_eqType fu a1 b2 = some r) :
    Calls Tryz.prog 145 #[.agg (Flat.e (a1)).toArray, .agg (Flat.e (b2)).toArray] w0 fun e w => e = .returned (.bool (r)) ∧ Ext [] w0 w := by
 refine enter (vs := [_, _]) func145 rfl ntmps145 rfl fun a k => ?_
 have m := St.start w0
 unfold d_laws_eqType at h
 refine wr (s_box (cs := [.int .i64 a1.fId, .int .i64 a1.fW, .int .i64 a1.fH, .int .i64 a1.fD, .int .i64 a1.fTare, .int .i64 a1.fGram, .int .i64 a1.fCost]) m k rfl rfl rfl rfl rfl rfl fun b3 w5 a k m e hb4 => s_box (cs := [.int .i64 b2.fId, .int .i64 b2.fW, .int .i64 b2.fH, .int .i64 b2.fD, .int .i64 b2.fTare, .int .i64 b2.fGram, .int .i64 b2.fCost]) m k rfl rfl rfl rfl rfl rfl fun b6 w8 a k m e hb7 => pN 1 k rfl fun a k => nn (wp_seq (wr (sv k rfl (r_fa fa92_0 k rfl rfl) fun a k => sv k rfl (r_ldb t13 m 1 hb4 0 k rfl rfl rfl rfl rfl) fun a k => sv k rfl (r_fa fa92_0 k rfl rfl) fun a k => sv k rfl (r_ldb t13 m 0 hb7 0 k rfl rfl rfl rfl rfl) fun a k => pN 1 k rfl fun a k => nn (cI h k rfl (fun hb9 h => ?_) fun hb9 h => ?_)))))
 · refine wr (pN 1 k rfl fun a k => nn (wp_ret (rt_then ?_)))
   refine fS h k m rfl rfl
 refine wp_skip (nm_then ?_)
 refine wp_seq (wr (sv k rfl (r_fa fa92_1 k rfl rfl) fun a k => sv k rfl (r_ldb t13 m 1 hb4 1 k rfl rfl rfl rfl rfl) fun a k => sv k rfl (r_fa fa92_1 k rfl rfl) fun a k => sv k rfl (r_ldb t13 m 0 hb7 1 k rfl rfl rfl rfl rfl) fun a k => pN 1 k rfl fun a k => nn (cI h k rfl (fun hb10 h => ?_) fun hb10 h => ?_)))
 · refine wr (pN 1 k rfl fun a k => nn (wp_ret (rt_then ?_)))
   refine fS h k m rfl rfl
 refine wp_skip (nm_then ?_)
 refine wp_seq (wr (sv k rfl (r_fa fa92_2 k rfl rfl) fun a k => sv k rfl (r_ldb t13 m 1 hb4 2 k rfl rfl rfl rfl rfl) fun a k => sv k rfl (r_fa fa92_2 k rfl rfl) fun a k => sv k rfl (r_ldb t13 m 0 hb7 2 k rfl rfl rfl rfl rfl) fun a k => pN 1 k rfl fun a k => nn (cI h k rfl (fun hb11 h => ?_) fun hb11 h => ?_)))
 · refine wr (pN 1 k rfl fun a k => nn (wp_ret (rt_then ?_)))
   refine fS h k m rfl rfl
 refine wp_skip (nm_then ?_)
 refine wp_seq (wr (sv k rfl (r_fa fa92_3 k rfl rfl) fun a k => sv k rfl (r_ldb t13 m 1 hb4 3 k rfl rfl rfl rfl rfl) fun a k => sv k rfl (r_fa fa92_3 k rfl rfl) fun a k => sv k rfl (r_ldb t13 m 0 hb7 3 k rfl rfl rfl rfl rfl) fun a k => pN 1 k rfl fun a k => nn (cI h k rfl (fun hb12 h => ?_) fun hb12 h => ?_)))
 · refine wr (pN 1 k rfl fun a k => nn (wp_ret (rt_then ?_)))
   refine fS h k m rfl rfl
 refine wp_skip (nm_then ?_)
 refine wp_seq (wr (sv k rfl (r_fa fa92_4 k rfl rfl) fun a k => sv k rfl (r_ldb t13 m 1 hb4 4 k rfl rfl rfl rfl rfl) fun a k => sv k rfl (r_fa fa92_4 k rfl rfl) fun a k => sv k rfl (r_ldb t13 m 0 hb7 4 k rfl rfl rfl rfl rfl) fun a k => pN 1 k rfl fun a k => ?_))
 have k := k.keep [2, 3, 29] rfl
 refine nn (cI h k rfl (fun hb13 h => ?_) fun hb13 h => ?_)
 · refine wr (pN 1 k rfl fun a k => nn (wp_ret (rt_then ?_)))
   refine fS h k m rfl rfl
 refine wp_skip (nm_then ?_)
 refine wp_seq (wr (sv k rfl (r_fa fa92_5 k rfl rfl) fun a k => sv k rfl (r_ldb t13 m 1 hb4 5 k rfl rfl rfl rfl rfl) fun a k => sv k rfl (r_fa fa92_5 k rfl rfl) fun a k => sv k rfl (r_ldb t13 m 0 hb7 5 k rfl rfl rfl rfl rfl) fun a k => pN 1 k rfl fun a k => nn (cI h k rfl (fun hb14 h => ?_) fun hb14 h => ?_)))
 · refine wr (pN 1 k rfl fun a k => nn (wp_ret (rt_then ?_)))
   refine fS h k m rfl rfl
 refine wp_skip (nm_then ?_)
 refine wp_seq (wr (sv k rfl (r_fa fa92_6 k rfl rfl) fun a k => sv k rfl (r_ldb t13 m 1 hb4 6 k rfl rfl rfl rfl rfl) fun a k => sv k rfl (r_fa fa92_6 k rfl rfl) fun a k => sv k rfl (r_ldb t13 m 0 hb7 6 k rfl rfl rfl rfl rfl) fun a k => pN 1 k rfl fun a k => nn (cI h k rfl (fun hb15 h => ?_) fun hb15 h => ?_)))
 · refine wr (pN 1 k rfl fun a k => nn (wp_ret (rt_then ?_)))
   refine fS h k m rfl rfl
 refine wp_skip (nm_then ?_)
 refine wr (pN 1 k rfl fun a k => nn (wp_ret (fS h k m rfl rfl)))
theorem c_laws_eqTypeS (fu : Nat) {w0 : World} (a1 : List Typ) (b5 : List Typ) {v2 : Value} {F3 : List Nat} (hp4 : rd w0 F3 [v2] a1) {v6 : Value} {F7 : List Nat} (hp8 : rd w0 F7 [v6] b5) {r : Bool}
    (h : d_laws_eqTypeS fu a1 b5 = some r) :
    Calls Tryz.prog 81 #[v2, v6] w0 fun e w => e = .returned (.bool (r)) ∧ Ext [] w0 w := by
 refine enter (vs := [_, _]) func81 rfl ntmps81 rfl fun a k => ?_
 have m := St.start w0
 unfold d_laws_eqTypeS at h
 refine wr (pN 1 k rfl fun a k => nn (wp_seq (wr (pN 1 k rfl fun a k => sv k rfl (r_len (α := Typ) hp4 k underlying37 rfl rfl) fun a k => pN 1 k rfl fun a k => sv k rfl (r_len (α := Typ) hp8 k underlying37 rfl rfl) fun a k => pN 1 k rfl fun a k => nn (cI h k rfl (fun hb9 h => ?_) fun hb9 h => ?_)))))
 · refine wr (pN 1 k rfl fun a k => nn (wp_ret (rt_then ?_)))
   refine fS h k m rfl rfl
 refine wp_skip (nm_then ?_)
 refine wp_seq (wr (pN 1 k rfl fun a k => nn (wp_block (c_loop (fun n a w => ∃ (i36 : Int), K 27 [(0, v2), (1, v6), (5, .int .i64 i36)] a ∧ St [] w0 w [] ∧ d_laws_eqTypeS_L1 fu a1 b5 n i36 = some r) ?_ ?_ fu _ _ ?_))))
 · rintro a w ⟨_, _, _, h⟩
   exact nS h
 · rintro m37 a w35 ⟨i36, k, m, h⟩
   rw [d_laws_eqTypeS_L1_s] at h
   unfold d_laws_eqTypeS_L1_B at h
   refine wp_seq (wr (pN 2 k rfl fun a k => sv k rfl (r_len (α := Typ) hp4 k underlying37 rfl rfl) fun a k => pN 1 k rfl fun a k => nn (cI h k rfl (fun hb38 h => ?_) fun hb38 h => ?_)))
   · refine wp_skip (nm_then ?_)
     refine wp_seq (wp_block (wp_seq (d_go [] mixo m rfl fun w39 hMd => ?_)))
     have m := hMd
     have s := Ext.refl ([] : List Nat) w39
     refine dp k 0 rfl (by kernel_rfl) rfl s (fun _ _ _ => id) rfl fun a k => dp k 1 rfl (by kernel_rfl) rfl s (fun _ _ _ => id) rfl fun a k => oE h fun x40 hx41 h => dt k 2 rfl (by kernel_rfl) rfl s (fun _ _ _ => id) (fun w s => r_ixa hp4 hx41 k ts37 rfl rfl rfl) fun a k => dt k 3 rfl (by kernel_rfl) rfl s (fun _ _ _ => id) (fun w s => r_lde hp4 ((hMd.step s).a00 (Enc.rd_lt hp4)) hx41 ta92 k rfl rfl) fun a k => dp k 4 rfl (by kernel_rfl) rfl s (fun _ _ _ => id) rfl fun a k => dp k 5 rfl (by kernel_rfl) rfl s (fun _ _ _ => id) rfl fun a k => oE h fun x42 hx43 h => dt k 6 rfl (by kernel_rfl) rfl s (fun _ _ _ => id) (fun w s => r_ixa hp8 hx43 k ts37 rfl rfl rfl) fun a k => dt k 7 rfl (by kernel_rfl) rfl s (fun _ _ _ => id) (fun w s => r_lde hp8 ((hMd.step s).a00 (Enc.rd_lt hp8)) hx43 ta92 k rfl rfl) fun a k => d_one 8 (by kernel_rfl) rfl ?_
     refine oE h fun x44 hx45 h => cE k m call145 rfl rfl rfl (c_laws_eqType fu (x40 : Typ) (x42 : Typ)  hx45) fun w47 e a k m => ?_
     have s := s.trans e (by simp)
     refine wpList_nil ⟨s, ?_⟩
     refine dp k 9 rfl (by kernel_rfl) rfl s (fun _ _ _ => id) rfl fun a k => d_done (by kernel_rfl) ((nm_then ?_))
     refine cI h k rfl (fun hb48 h => ?_) fun hb48 h => ?_
     · refine wr (pN 1 k rfl fun a k => nn (wp_ret (rt_block (rt_then (rt_then (rt_block (rt_then ?_)))))))
       refine fS h k m rfl rfl
     refine wp_skip (nm_block (nm_then ?_))
     refine wp_region_lit (pN 3 k rfl fun a k => nn ?_)
     exact ⟨w64 (i36 + 1), k.keep [0, 1, 5] rfl, m.sel [] rfl (by decide), h⟩
   refine wp_exit (ex_then (ex_then (ex_same (nm_then ?_))))
   refine wr (pN 1 k rfl fun a k => nn (wp_ret (fS h k m rfl rfl)))
 exact ⟨0, k.keep [0, 1, 5] rfl, m.sel [] rfl (by decide), h⟩
theorem c_laws_eqItem (fu : Nat) {w0 : World} (a1 : Item) (b2 : Item)  {r : Bool}
    (h : d_laws_eqItem fu a1 b2 = some r) :
    Calls Tryz.prog 146 #[.agg (Flat.e (a1)).toArray, .agg (Flat.e (b2)).toArray] w0 fun e w => e = .returned (.bool (r)) ∧ Ext [] w0 w := by
 refine enter (vs := [_, _]) func146 rfl ntmps146 rfl fun a k => ?_
 have m := St.start w0
 unfold d_laws_eqItem at h
 refine wr (s_box (cs := [.int .i64 a1.fId, .int .i64 a1.fW, .int .i64 a1.fH, .int .i64 a1.fD, .int .i64 a1.fGram, .int .i64 a1.fClass, .int .i64 a1.fCount]) m k rfl rfl rfl rfl rfl rfl fun b3 w5 a k m e hb4 => s_box (cs := [.int .i64 b2.fId, .int .i64 b2.fW, .int .i64 b2.fH, .int .i64 b2.fD, .int .i64 b2.fGram, .int .i64 b2.fClass, .int .i64 b2.fCount]) m k rfl rfl rfl rfl rfl rfl fun b6 w8 a k m e hb7 => pN 1 k rfl fun a k => nn (wp_seq (wr (sv k rfl (r_fa fa120_0 k rfl rfl) fun a k => sv k rfl (r_ldb t13 m 1 hb4 0 k rfl rfl rfl rfl rfl) fun a k => sv k rfl (r_fa fa120_0 k rfl rfl) fun a k => sv k rfl (r_ldb t13 m 0 hb7 0 k rfl rfl rfl rfl rfl) fun a k => pN 1 k rfl fun a k => nn (cI h k rfl (fun hb9 h => ?_) fun hb9 h => ?_)))))
 · refine wr (pN 1 k rfl fun a k => nn (wp_ret (rt_then ?_)))
   refine fS h k m rfl rfl
 refine wp_skip (nm_then ?_)
 refine wp_seq (wr (sv k rfl (r_fa fa120_1 k rfl rfl) fun a k => sv k rfl (r_ldb t13 m 1 hb4 1 k rfl rfl rfl rfl rfl) fun a k => sv k rfl (r_fa fa120_1 k rfl rfl) fun a k => sv k rfl (r_ldb t13 m 0 hb7 1 k rfl rfl rfl rfl rfl) fun a k => pN 1 k rfl fun a k => nn (cI h k rfl (fun hb10 h => ?_) fun hb10 h => ?_)))
 · refine wr (pN 1 k rfl fun a k => nn (wp_ret (rt_then ?_)))
   refine fS h k m rfl rfl
 refine wp_skip (nm_then ?_)
 refine wp_seq (wr (sv k rfl (r_fa fa120_2 k rfl rfl) fun a k => sv k rfl (r_ldb t13 m 1 hb4 2 k rfl rfl rfl rfl rfl) fun a k => sv k rfl (r_fa fa120_2 k rfl rfl) fun a k => sv k rfl (r_ldb t13 m 0 hb7 2 k rfl rfl rfl rfl rfl) fun a k => pN 1 k rfl fun a k => nn (cI h k rfl (fun hb11 h => ?_) fun hb11 h => ?_)))
 · refine wr (pN 1 k rfl fun a k => nn (wp_ret (rt_then ?_)))
   refine fS h k m rfl rfl
 refine wp_skip (nm_then ?_)
 refine wp_seq (wr (sv k rfl (r_fa fa120_3 k rfl rfl) fun a k => sv k rfl (r_ldb t13 m 1 hb4 3 k rfl rfl rfl rfl rfl) fun a k => sv k rfl (r_fa fa120_3 k rfl rfl) fun a k => sv k rfl (r_ldb t13 m 0 hb7 3 k rfl rfl rfl rfl rfl) fun a k => pN 1 k rfl fun a k => nn (cI h k rfl (fun hb12 h => ?_) fun hb12 h => ?_)))
 · refine wr (pN 1 k rfl fun a k => nn (wp_ret (rt_then ?_)))
   refine fS h k m rfl rfl
 refine wp_skip (nm_then ?_)
 refine wp_seq (wr (sv k rfl (r_fa fa120_4 k rfl rfl) fun a k => sv k rfl (r_ldb t13 m 1 hb4 4 k rfl rfl rfl rfl rfl) fun a k => sv k rfl (r_fa fa120_4 k rfl rfl) fun a k => sv k rfl (r_ldb t13 m 0 hb7 4 k rfl rfl rfl rfl rfl) fun a k => pN 1 k rfl fun a k => ?_))
 have k := k.keep [2, 3, 29] rfl
 refine nn (cI h k rfl (fun hb13 h => ?_) fun hb13 h => ?_)
 · refine wr (pN 1 k rfl fun a k => nn (wp_ret (rt_then ?_)))
   refine fS h k m rfl rfl
 refine wp_skip (nm_then ?_)
 refine wp_seq (wr (sv k rfl (r_fa fa120_5 k rfl rfl) fun a k => sv k rfl (r_ldb t13 m 1 hb4 5 k rfl rfl rfl rfl rfl) fun a k => sv k rfl (r_fa fa120_5 k rfl rfl) fun a k => sv k rfl (r_ldb t13 m 0 hb7 5 k rfl rfl rfl rfl rfl) fun a k => pN 1 k rfl fun a k => nn (cI h k rfl (fun hb14 h => ?_) fun hb14 h => ?_)))
 · refine wr (pN 1 k rfl fun a k => nn (wp_ret (rt_then ?_)))
   refine fS h k m rfl rfl
 refine wp_skip (nm_then ?_)
 refine wp_seq (wr (sv k rfl (r_fa fa120_6 k rfl rfl) fun a k => sv k rfl (r_ldb t13 m 1 hb4 6 k rfl rfl rfl rfl rfl) fun a k => sv k rfl (r_fa fa120_6 k rfl rfl) fun a k => sv k rfl (r_ldb t13 m 0 hb7 6 k rfl rfl rfl rfl rfl) fun a k => pN 1 k rfl fun a k => nn (cI h k rfl (fun hb15 h => ?_) fun hb15 h => ?_)))
 · refine wr (pN 1 k rfl fun a k => nn (wp_ret (rt_then ?_)))
   refine fS h k m rfl rfl
 refine wp_skip (nm_then ?_)
 refine wr (pN 1 k rfl fun a k => nn (wp_ret (fS h k m rfl rfl)))
theorem c_laws_eqItemS (fu : Nat) {w0 : World} (a1 : List Item) (b5 : List Item) {v2 : Value} {F3 : List Nat} (hp4 : rd w0 F3 [v2] a1) {v6 : Value} {F7 : List Nat} (hp8 : rd w0 F7 [v6] b5) {r : Bool}
    (h : d_laws_eqItemS fu a1 b5 = some r) :
    Calls Tryz.prog 82 #[v2, v6] w0 fun e w => e = .returned (.bool (r)) ∧ Ext [] w0 w := by
 refine enter (vs := [_, _]) func82 rfl ntmps82 rfl fun a k => ?_
 have m := St.start w0
 unfold d_laws_eqItemS at h
 refine wr (pN 1 k rfl fun a k => nn (wp_seq (wr (pN 1 k rfl fun a k => sv k rfl (r_len (α := Item) hp4 k underlying38 rfl rfl) fun a k => pN 1 k rfl fun a k => sv k rfl (r_len (α := Item) hp8 k underlying38 rfl rfl) fun a k => pN 1 k rfl fun a k => nn (cI h k rfl (fun hb9 h => ?_) fun hb9 h => ?_)))))
 · refine wr (pN 1 k rfl fun a k => nn (wp_ret (rt_then ?_)))
   refine fS h k m rfl rfl
 refine wp_skip (nm_then ?_)
 refine wp_seq (wr (pN 1 k rfl fun a k => nn (wp_block (c_loop (fun n a w => ∃ (i36 : Int), K 27 [(0, v2), (1, v6), (5, .int .i64 i36)] a ∧ St [] w0 w [] ∧ d_laws_eqItemS_L1 fu a1 b5 n i36 = some r) ?_ ?_ fu _ _ ?_))))
 · rintro a w ⟨_, _, _, h⟩
   exact nS h
 · rintro m37 a w35 ⟨i36, k, m, h⟩
   rw [d_laws_eqItemS_L1_s] at h
   unfold d_laws_eqItemS_L1_B at h
   refine wp_seq (wr (pN 2 k rfl fun a k => sv k rfl (r_len (α := Item) hp4 k underlying38 rfl rfl) fun a k => pN 1 k rfl fun a k => nn (cI h k rfl (fun hb38 h => ?_) fun hb38 h => ?_)))
   · refine wp_skip (nm_then ?_)
     refine wp_seq (wp_block (wp_seq (d_go [] mixo m rfl fun w39 hMd => ?_)))
     have m := hMd
     have s := Ext.refl ([] : List Nat) w39
     refine dp k 0 rfl (by kernel_rfl) rfl s (fun _ _ _ => id) rfl fun a k => dp k 1 rfl (by kernel_rfl) rfl s (fun _ _ _ => id) rfl fun a k => oE h fun x40 hx41 h => dt k 2 rfl (by kernel_rfl) rfl s (fun _ _ _ => id) (fun w s => r_ixa hp4 hx41 k ts38 rfl rfl rfl) fun a k => dt k 3 rfl (by kernel_rfl) rfl s (fun _ _ _ => id) (fun w s => r_lde hp4 ((hMd.step s).a00 (Enc.rd_lt hp4)) hx41 ta120 k rfl rfl) fun a k => dp k 4 rfl (by kernel_rfl) rfl s (fun _ _ _ => id) rfl fun a k => dp k 5 rfl (by kernel_rfl) rfl s (fun _ _ _ => id) rfl fun a k => oE h fun x42 hx43 h => dt k 6 rfl (by kernel_rfl) rfl s (fun _ _ _ => id) (fun w s => r_ixa hp8 hx43 k ts38 rfl rfl rfl) fun a k => dt k 7 rfl (by kernel_rfl) rfl s (fun _ _ _ => id) (fun w s => r_lde hp8 ((hMd.step s).a00 (Enc.rd_lt hp8)) hx43 ta120 k rfl rfl) fun a k => d_one 8 (by kernel_rfl) rfl ?_
     refine oE h fun x44 hx45 h => cE k m call146 rfl rfl rfl (c_laws_eqItem fu (x40 : Item) (x42 : Item)  hx45) fun w47 e a k m => ?_
     have s := s.trans e (by simp)
     refine wpList_nil ⟨s, ?_⟩
     refine dp k 9 rfl (by kernel_rfl) rfl s (fun _ _ _ => id) rfl fun a k => d_done (by kernel_rfl) ((nm_then ?_))
     refine cI h k rfl (fun hb48 h => ?_) fun hb48 h => ?_
     · refine wr (pN 1 k rfl fun a k => nn (wp_ret (rt_block (rt_then (rt_then (rt_block (rt_then ?_)))))))
       refine fS h k m rfl rfl
     refine wp_skip (nm_block (nm_then ?_))
     refine wp_region_lit (pN 3 k rfl fun a k => nn ?_)
     exact ⟨w64 (i36 + 1), k.keep [0, 1, 5] rfl, m.sel [] rfl (by decide), h⟩
   refine wp_exit (ex_then (ex_then (ex_same (nm_then ?_))))
   refine wr (pN 1 k rfl fun a k => nn (wp_ret (fS h k m rfl rfl)))
 exact ⟨0, k.keep [0, 1, 5] rfl, m.sel [] rfl (by decide), h⟩
theorem c_laws_eqRequest (fu : Nat) {w0 : World} (a1 : Request) (b5 : Request) {cs2 : List Value} {F3 : List Nat} (hp4 : rd w0 F3 cs2 a1) {cs6 : List Value} {F7 : List Nat} (hp8 : rd w0 F7 cs6 b5) {r : Bool}
    (h : d_laws_eqRequest fu a1 b5 = some r) :
    Calls Tryz.prog 21 #[.agg cs2.toArray, .agg cs6.toArray] w0 fun e w => e = .returned (.bool (r)) ∧ Ext [] w0 w := by
 refine enter (vs := [_, _]) func21 rfl ntmps21 rfl fun a k => ?_
 have m := St.start w0
 obtain ⟨v9, F10, v11, F12, v13, F14, rfl, rfl, hf15, hf16, hf17⟩ := hp4
 obtain ⟨v18, F19, v20, F21, v22, F23, rfl, rfl, hf24, hf25, hf26⟩ := hp8
 unfold d_laws_eqRequest at h
 refine wr (s_box (cs := [.int .i64 a1.fWay, .int .i64 a1.fPallet.fW, .int .i64 a1.fPallet.fD, .int .i64 a1.fPallet.fH, .int .i64 a1.fPallet.fGram, .int .i64 a1.fClasses, v9, v11, .int .i64 a1.fMaster, v13]) m k rfl rfl rfl rfl rfl rfl fun b27 w29 a k m e hb28 => s_box (cs := [.int .i64 b5.fWay, .int .i64 b5.fPallet.fW, .int .i64 b5.fPallet.fD, .int .i64 b5.fPallet.fH, .int .i64 b5.fPallet.fGram, .int .i64 b5.fClasses, v18, v20, .int .i64 b5.fMaster, v22]) m k rfl rfl rfl rfl rfl rfl fun b30 w32 a k m e hb31 => pN 1 k rfl fun a k => nn (wp_seq (wr (sv k rfl (r_fa fa40_0 k rfl rfl) fun a k => sv k rfl (r_ldb t13 m 1 hb28 0 k rfl rfl rfl rfl rfl) fun a k => sv k rfl (r_fa fa40_0 k rfl rfl) fun a k => sv k rfl (r_ldb t13 m 0 hb31 0 k rfl rfl rfl rfl rfl) fun a k => pN 1 k rfl fun a k => nn ?_))))
 refine cI h k rfl (fun hb33 h => ?_) fun hb33 h => ?_
 · refine wr (pN 1 k rfl fun a k => nn (wp_ret (rt_then ?_)))
   refine fS h k m rfl rfl
 refine wp_skip (nm_then ?_)
 refine wp_seq (wr (sv k rfl (r_fa fa40_1 k rfl rfl) fun a k => sv k rfl (r_ldB ta35 m 1 hb28 1 k rfl rfl rfl rfl rfl rfl) fun a k => sv k rfl (r_fa fa40_1 k rfl rfl) fun a k => sv k rfl (r_ldB ta35 m 0 hb31 1 k rfl rfl rfl rfl rfl rfl) fun a k => oE h fun x34 hx35 h => cE k m call79 rfl rfl rfl (c_laws_eqPallet fu (a1.fPallet : Pallet) (b5.fPallet : Pallet)  hx35) fun w37 e a k m => pN 1 k rfl fun a k => nn (cI h k rfl (fun hb38 h => ?_) fun hb38 h => ?_)))
 · refine wr (pN 1 k rfl fun a k => nn (wp_ret (rt_then ?_)))
   refine fS h k m rfl rfl
 refine wp_skip (nm_then ?_)
 refine wp_seq (wr (sv k rfl (r_fa fa40_2 k rfl rfl) fun a k => sv k rfl (r_ldb t13 m 1 hb28 5 k rfl rfl rfl rfl rfl) fun a k => sv k rfl (r_fa fa40_2 k rfl rfl) fun a k => sv k rfl (r_ldb t13 m 0 hb31 5 k rfl rfl rfl rfl rfl) fun a k => pN 1 k rfl fun a k => nn (cI h k rfl (fun hb39 h => ?_) fun hb39 h => ?_)))
 · refine wr (pN 1 k rfl fun a k => nn (wp_ret (rt_then ?_)))
   refine fS h k m rfl rfl
 refine wp_skip (nm_then ?_)
 refine wp_seq (wr (sv k rfl (r_fa fa40_3 k rfl rfl) fun a k => sv k rfl (r_ldb t136 m 1 hb28 6 k rfl rfl rfl rfl rfl) fun a k => sv k rfl (r_fa fa40_3 k rfl rfl) fun a k => sv k rfl (r_ldb t136 m 0 hb31 6 k rfl rfl rfl rfl rfl) fun a k => oE h fun x40 hx41 h => cE k m call80 rfl rfl rfl (c_laws_eqPairS fu _ _ (Enc.rd_agr hf15 (m.a00 (Enc.rd_lt hf15))) (Enc.rd_agr hf24 (m.a00 (Enc.rd_lt hf24))) hx41) fun w43 e a k m => pN 1 k rfl fun a k => ?_))
 have k := k.keep [2, 3, 26] rfl
 refine nn (cI h k rfl (fun hb44 h => ?_) fun hb44 h => ?_)
 · refine wr (pN 1 k rfl fun a k => nn (wp_ret (rt_then ?_)))
   refine fS h k m rfl rfl
 refine wp_skip (nm_then ?_)
 refine wp_seq (wr (sv k rfl (r_fa fa40_4 k rfl rfl) fun a k => sv k rfl (r_ldb t137 m 1 hb28 7 k rfl rfl rfl rfl rfl) fun a k => sv k rfl (r_fa fa40_4 k rfl rfl) fun a k => sv k rfl (r_ldb t137 m 0 hb31 7 k rfl rfl rfl rfl rfl) fun a k => oE h fun x45 hx46 h => cE k m call81 rfl rfl rfl (c_laws_eqTypeS fu _ _ (Enc.rd_agr hf16 (m.a00 (Enc.rd_lt hf16))) (Enc.rd_agr hf25 (m.a00 (Enc.rd_lt hf25))) hx46) fun w48 e a k m => pN 1 k rfl fun a k => nn (cI h k rfl (fun hb49 h => ?_) fun hb49 h => ?_)))
 · refine wr (pN 1 k rfl fun a k => nn (wp_ret (rt_then ?_)))
   refine fS h k m rfl rfl
 refine wp_skip (nm_then ?_)
 refine wp_seq (wr (sv k rfl (r_fa fa40_5 k rfl rfl) fun a k => sv k rfl (r_ldb t13 m 1 hb28 8 k rfl rfl rfl rfl rfl) fun a k => sv k rfl (r_fa fa40_5 k rfl rfl) fun a k => sv k rfl (r_ldb t13 m 0 hb31 8 k rfl rfl rfl rfl rfl) fun a k => pN 1 k rfl fun a k => nn (cI h k rfl (fun hb50 h => ?_) fun hb50 h => ?_)))
 · refine wr (pN 1 k rfl fun a k => nn (wp_ret (rt_then ?_)))
   refine fS h k m rfl rfl
 refine wp_skip (nm_then ?_)
 refine wp_seq (wr (sv k rfl (r_fa fa40_6 k rfl rfl) fun a k => sv k rfl (r_ldb t138 m 1 hb28 9 k rfl rfl rfl rfl rfl) fun a k => sv k rfl (r_fa fa40_6 k rfl rfl) fun a k => sv k rfl (r_ldb t138 m 0 hb31 9 k rfl rfl rfl rfl rfl) fun a k => oE h fun x51 hx52 h => cE k m call82 rfl rfl rfl (c_laws_eqItemS fu _ _ (Enc.rd_agr hf17 (m.a00 (Enc.rd_lt hf17))) (Enc.rd_agr hf26 (m.a00 (Enc.rd_lt hf26))) hx52) fun w54 e a k m => pN 1 k rfl fun a k => nn (cI h k rfl (fun hb55 h => ?_) fun hb55 h => ?_)))
 · refine wr (pN 1 k rfl fun a k => nn (wp_ret (rt_then ?_)))
   refine fS h k m rfl rfl
 refine wp_skip (nm_then ?_)
 refine wr (pN 1 k rfl fun a k => nn (wp_ret (fS h k m rfl rfl)))
theorem c_laws_eqCarton (fu : Nat) {w0 : World} (a1 : Carton) (b5 : Carton) {cs2 : List Value} {F3 : List Nat} (hp4 : rd w0 F3 cs2 a1) {cs6 : List Value} {F7 : List Nat} (hp8 : rd w0 F7 cs6 b5) {r : Bool}
    (h : d_laws_eqCarton fu a1 b5 = some r) :
    Calls Tryz.prog 22 #[.agg cs2.toArray, .agg cs6.toArray] w0 fun e w => e = .returned (.bool (r)) ∧ Ext [] w0 w := by
 refine enter (vs := [_, _]) func22 rfl ntmps22 rfl fun a k => ?_
 have m := St.start w0
 obtain ⟨v9, _, rfl, rfl, hf10⟩ := hp4
 obtain ⟨v11, _, rfl, rfl, hf12⟩ := hp8
 unfold d_laws_eqCarton at h
 refine wr (s_box (cs := [.int .i64 a1.fType, .int .i64 a1.fGroup, v9]) m k rfl rfl rfl rfl rfl rfl fun b13 w15 a k m e hb14 => s_box (cs := [.int .i64 b5.fType, .int .i64 b5.fGroup, v11]) m k rfl rfl rfl rfl rfl rfl fun b16 w18 a k m e hb17 => pN 1 k rfl fun a k => nn (wp_seq (wr (sv k rfl (r_fa fa42_0 k rfl rfl) fun a k => sv k rfl (r_ldb t13 m 1 hb14 0 k rfl rfl rfl rfl rfl) fun a k => sv k rfl (r_fa fa42_0 k rfl rfl) fun a k => sv k rfl (r_ldb t13 m 0 hb17 0 k rfl rfl rfl rfl rfl) fun a k => pN 1 k rfl fun a k => nn (cI h k rfl (fun hb19 h => ?_) fun hb19 h => ?_)))))
 · refine wr (pN 1 k rfl fun a k => nn (wp_ret (rt_then ?_)))
   refine fS h k m rfl rfl
 refine wp_skip (nm_then ?_)
 refine wp_seq (wr (sv k rfl (r_fa fa42_1 k rfl rfl) fun a k => sv k rfl (r_ldb t13 m 1 hb14 1 k rfl rfl rfl rfl rfl) fun a k => sv k rfl (r_fa fa42_1 k rfl rfl) fun a k => sv k rfl (r_ldb t13 m 0 hb17 1 k rfl rfl rfl rfl rfl) fun a k => pN 1 k rfl fun a k => nn (cI h k rfl (fun hb20 h => ?_) fun hb20 h => ?_)))
 · refine wr (pN 1 k rfl fun a k => nn (wp_ret (rt_then ?_)))
   refine fS h k m rfl rfl
 refine wp_skip (nm_then ?_)
 refine wp_seq (wr (sv k rfl (r_fa fa42_2 k rfl rfl) fun a k => sv k rfl (r_ldb t129 m 1 hb14 2 k rfl rfl rfl rfl rfl) fun a k => sv k rfl (r_fa fa42_2 k rfl rfl) fun a k => sv k rfl (r_ldb t129 m 0 hb17 2 k rfl rfl rfl rfl rfl) fun a k => oE h fun x21 hx22 h => cE k m call43 rfl rfl rfl (c_laws_eqIntS fu _ _ (Enc.rd_agr hf10 (m.a00 (Enc.rd_lt hf10))) (Enc.rd_agr hf12 (m.a00 (Enc.rd_lt hf12))) hx22) fun w24 e a k m => pN 1 k rfl fun a k => nn (cI h k rfl (fun hb25 h => ?_) fun hb25 h => ?_)))
 · refine wr (pN 1 k rfl fun a k => nn (wp_ret (rt_then ?_)))
   refine fS h k m rfl rfl
 refine wp_skip (nm_then ?_)
 refine wr (pN 1 k rfl fun a k => nn (wp_ret (fS h k m rfl rfl)))
theorem c_laws_eqCartonS (fu : Nat) {w0 : World} (a1 : List Carton) (b5 : List Carton) {v2 : Value} {F3 : List Nat} (hp4 : rd w0 F3 [v2] a1) {v6 : Value} {F7 : List Nat} (hp8 : rd w0 F7 [v6] b5) {r : Bool}
    (h : d_laws_eqCartonS fu a1 b5 = some r) :
    Calls Tryz.prog 44 #[v2, v6] w0 fun e w => e = .returned (.bool (r)) ∧ Ext [] w0 w := by
 refine enter (vs := [_, _]) func44 rfl ntmps44 rfl fun a k => ?_
 have m := St.start w0
 unfold d_laws_eqCartonS at h
 refine wr (pN 1 k rfl fun a k => nn (wp_seq (wr (pN 1 k rfl fun a k => sv k rfl (r_len (α := Carton) hp4 k underlying63 rfl rfl) fun a k => pN 1 k rfl fun a k => sv k rfl (r_len (α := Carton) hp8 k underlying63 rfl rfl) fun a k => pN 1 k rfl fun a k => nn (cI h k rfl (fun hb9 h => ?_) fun hb9 h => ?_)))))
 · refine wr (pN 1 k rfl fun a k => nn (wp_ret (rt_then ?_)))
   refine fS h k m rfl rfl
 refine wp_skip (nm_then ?_)
 refine wp_seq (wr (pN 1 k rfl fun a k => nn (wp_block (c_loop (fun n a w => ∃ (i68 : Int), K 27 [(0, v2), (1, v6), (5, .int .i64 i68)] a ∧ St [] w0 w [] ∧ d_laws_eqCartonS_L1 fu a1 b5 n i68 = some r) ?_ ?_ fu _ _ ?_))))
 · rintro a w ⟨_, _, _, h⟩
   exact nS h
 · rintro m69 a w67 ⟨i68, k, m, h⟩
   rw [d_laws_eqCartonS_L1_s] at h
   unfold d_laws_eqCartonS_L1_B at h
   refine wp_seq (wr (pN 2 k rfl fun a k => sv k rfl (r_len (α := Carton) hp4 k underlying63 rfl rfl) fun a k => pN 1 k rfl fun a k => nn (cI h k rfl (fun hb70 h => ?_) fun hb70 h => ?_)))
   · refine wp_skip (nm_then ?_)
     refine wp_seq (wp_block (wp_seq (d_go [] mixo m rfl fun w71 hMd => ?_)))
     have m := hMd
     have s := Ext.refl ([] : List Nat) w71
     refine dp k 0 rfl (by kernel_rfl) rfl s (fun _ _ _ => id) rfl fun a k => dp k 1 rfl (by kernel_rfl) rfl s (fun _ _ _ => id) rfl fun a k => oE h fun x72 hx73 h => dt k 2 rfl (by kernel_rfl) rfl s (fun _ _ _ => id) (fun w s => r_ixa hp4 hx73 k ts63 rfl rfl rfl) fun a k => ?_
     obtain ⟨G74, cs75, hG76, hr77, hp78, hb79⟩ := rd_get hp4 (ix_some hx73).2.2
     obtain ⟨v80, _, rfl, rfl, hf81⟩ := hr77
     refine dt k 3 rfl (by kernel_rfl) rfl s (fun _ _ _ => id) (fun w s => r_ldA ta42 (hp78.agr ((hMd.step s).a00 (Enc.rd_lt hp4)) hb79) rfl k rfl rfl) fun a k => dp k 4 rfl (by kernel_rfl) rfl s (fun _ _ _ => id) rfl fun a k => dp k 5 rfl (by kernel_rfl) rfl s (fun _ _ _ => id) rfl fun a k => oE h fun x82 hx83 h => dt k 6 rfl (by kernel_rfl) rfl s (fun _ _ _ => id) (fun w s => r_ixa hp8 hx83 k ts63 rfl rfl rfl) fun a k => ?_
     obtain ⟨G84, cs85, hG86, hr87, hp88, hb89⟩ := rd_get hp8 (ix_some hx83).2.2
     obtain ⟨v90, _, rfl, rfl, hf91⟩ := hr87
     refine dt k 7 rfl (by kernel_rfl) rfl s (fun _ _ _ => id) (fun w s => r_ldA ta42 (hp88.agr ((hMd.step s).a00 (Enc.rd_lt hp8)) hb89) rfl k rfl rfl) fun a k => d_one 8 (by kernel_rfl) rfl (oE h fun x92 hx93 h => cE k m call22 rfl rfl rfl (c_laws_eqCarton fu _ _ (show rd _ _ [.int .i64 x72.fType, .int .i64 x72.fGroup, v80] (x72 : Carton) from ⟨_, _, rfl, rfl, (Enc.rd_agr hf81 (m.a00 (Enc.rd_lt hf81)))⟩) (show rd _ _ [.int .i64 x82.fType, .int .i64 x82.fGroup, v90] (x82 : Carton) from ⟨_, _, rfl, rfl, (Enc.rd_agr hf91 (m.a00 (Enc.rd_lt hf91)))⟩) hx93) fun w95 e a k m => ?_)
     have s := s.trans e (by simp)
     refine wpList_nil ⟨s, ?_⟩
     refine dp k 9 rfl (by kernel_rfl) rfl s (fun _ _ _ => id) rfl fun a k => d_done (by kernel_rfl) ((nm_then ?_))
     refine cI h k rfl (fun hb96 h => ?_) fun hb96 h => ?_
     · refine wr (pN 1 k rfl fun a k => nn (wp_ret (rt_block (rt_then (rt_then (rt_block (rt_then ?_)))))))
       refine fS h k m rfl rfl
     refine wp_skip (nm_block (nm_then ?_))
     refine wp_region_lit (pN 3 k rfl fun a k => nn ?_)
     exact ⟨w64 (i68 + 1), k.keep [0, 1, 5] rfl, m.sel [] rfl (by decide), h⟩
   refine wp_exit (ex_then (ex_then (ex_same (nm_then ?_))))
   refine wr (pN 1 k rfl fun a k => nn (wp_ret (fS h k m rfl rfl)))
 exact ⟨0, k.keep [0, 1, 5] rfl, m.sel [] rfl (by decide), h⟩
theorem c_laws_eqSpot (fu : Nat) {w0 : World} (a1 : Spot) (b2 : Spot)  {r : Bool}
    (h : d_laws_eqSpot fu a1 b2 = some r) :
    Calls Tryz.prog 169 #[.agg (Flat.e (a1)).toArray, .agg (Flat.e (b2)).toArray] w0 fun e w => e = .returned (.bool (r)) ∧ Ext [] w0 w := by
 refine enter (vs := [_, _]) func169 rfl ntmps169 rfl fun a k => ?_
 have m := St.start w0
 unfold d_laws_eqSpot at h
 refine wr (s_box (cs := [.int .i64 a1.fPallet, .int .i64 a1.fX, .int .i64 a1.fY, .int .i64 a1.fZ]) m k rfl rfl rfl rfl rfl rfl fun b3 w5 a k m e hb4 => s_box (cs := [.int .i64 b2.fPallet, .int .i64 b2.fX, .int .i64 b2.fY, .int .i64 b2.fZ]) m k rfl rfl rfl rfl rfl rfl fun b6 w8 a k m e hb7 => pN 1 k rfl fun a k => nn (wp_seq (wr (sv k rfl (r_fa fa171_0 k rfl rfl) fun a k => sv k rfl (r_ldb t13 m 1 hb4 0 k rfl rfl rfl rfl rfl) fun a k => sv k rfl (r_fa fa171_0 k rfl rfl) fun a k => sv k rfl (r_ldb t13 m 0 hb7 0 k rfl rfl rfl rfl rfl) fun a k => pN 1 k rfl fun a k => nn (cI h k rfl (fun hb9 h => ?_) fun hb9 h => ?_)))))
 · refine wr (pN 1 k rfl fun a k => nn (wp_ret (rt_then ?_)))
   refine fS h k m rfl rfl
 refine wp_skip (nm_then ?_)
 refine wp_seq (wr (sv k rfl (r_fa fa171_1 k rfl rfl) fun a k => sv k rfl (r_ldb t13 m 1 hb4 1 k rfl rfl rfl rfl rfl) fun a k => sv k rfl (r_fa fa171_1 k rfl rfl) fun a k => sv k rfl (r_ldb t13 m 0 hb7 1 k rfl rfl rfl rfl rfl) fun a k => pN 1 k rfl fun a k => nn (cI h k rfl (fun hb10 h => ?_) fun hb10 h => ?_)))
 · refine wr (pN 1 k rfl fun a k => nn (wp_ret (rt_then ?_)))
   refine fS h k m rfl rfl
 refine wp_skip (nm_then ?_)
 refine wp_seq (wr (sv k rfl (r_fa fa171_2 k rfl rfl) fun a k => sv k rfl (r_ldb t13 m 1 hb4 2 k rfl rfl rfl rfl rfl) fun a k => sv k rfl (r_fa fa171_2 k rfl rfl) fun a k => sv k rfl (r_ldb t13 m 0 hb7 2 k rfl rfl rfl rfl rfl) fun a k => pN 1 k rfl fun a k => nn (cI h k rfl (fun hb11 h => ?_) fun hb11 h => ?_)))
 · refine wr (pN 1 k rfl fun a k => nn (wp_ret (rt_then ?_)))
   refine fS h k m rfl rfl
 refine wp_skip (nm_then ?_)
 refine wp_seq (wr (sv k rfl (r_fa fa171_3 k rfl rfl) fun a k => sv k rfl (r_ldb t13 m 1 hb4 3 k rfl rfl rfl rfl rfl) fun a k => sv k rfl (r_fa fa171_3 k rfl rfl) fun a k => sv k rfl (r_ldb t13 m 0 hb7 3 k rfl rfl rfl rfl rfl) fun a k => pN 1 k rfl fun a k => nn (cI h k rfl (fun hb12 h => ?_) fun hb12 h => ?_)))
 · refine wr (pN 1 k rfl fun a k => nn (wp_ret (rt_then ?_)))
   refine fS h k m rfl rfl
 refine wp_skip (nm_then ?_)
 refine wr (pN 1 k rfl fun a k => nn (wp_ret (fS h k m rfl rfl)))
theorem c_laws_eqSpotS (fu : Nat) {w0 : World} (a1 : List Spot) (b5 : List Spot) {v2 : Value} {F3 : List Nat} (hp4 : rd w0 F3 [v2] a1) {v6 : Value} {F7 : List Nat} (hp8 : rd w0 F7 [v6] b5) {r : Bool}
    (h : d_laws_eqSpotS fu a1 b5 = some r) :
    Calls Tryz.prog 128 #[v2, v6] w0 fun e w => e = .returned (.bool (r)) ∧ Ext [] w0 w := by
 refine enter (vs := [_, _]) func128 rfl ntmps128 rfl fun a k => ?_
 have m := St.start w0
 unfold d_laws_eqSpotS at h
 refine wr (pN 1 k rfl fun a k => nn (wp_seq (wr (pN 1 k rfl fun a k => sv k rfl (r_len (α := Spot) hp4 k underlying80 rfl rfl) fun a k => pN 1 k rfl fun a k => sv k rfl (r_len (α := Spot) hp8 k underlying80 rfl rfl) fun a k => pN 1 k rfl fun a k => nn (cI h k rfl (fun hb9 h => ?_) fun hb9 h => ?_)))))
 · refine wr (pN 1 k rfl fun a k => nn (wp_ret (rt_then ?_)))
   refine fS h k m rfl rfl
 refine wp_skip (nm_then ?_)
 refine wp_seq (wr (pN 1 k rfl fun a k => nn (wp_block (c_loop (fun n a w => ∃ (i36 : Int), K 27 [(0, v2), (1, v6), (5, .int .i64 i36)] a ∧ St [] w0 w [] ∧ d_laws_eqSpotS_L1 fu a1 b5 n i36 = some r) ?_ ?_ fu _ _ ?_))))
 · rintro a w ⟨_, _, _, h⟩
   exact nS h
 · rintro m37 a w35 ⟨i36, k, m, h⟩
   rw [d_laws_eqSpotS_L1_s] at h
   unfold d_laws_eqSpotS_L1_B at h
   refine wp_seq (wr (pN 2 k rfl fun a k => sv k rfl (r_len (α := Spot) hp4 k underlying80 rfl rfl) fun a k => pN 1 k rfl fun a k => nn (cI h k rfl (fun hb38 h => ?_) fun hb38 h => ?_)))
   · refine wp_skip (nm_then ?_)
     refine wp_seq (wp_block (wp_seq (d_go [] mixo m rfl fun w39 hMd => ?_)))
     have m := hMd
     have s := Ext.refl ([] : List Nat) w39
     refine dp k 0 rfl (by kernel_rfl) rfl s (fun _ _ _ => id) rfl fun a k => dp k 1 rfl (by kernel_rfl) rfl s (fun _ _ _ => id) rfl fun a k => oE h fun x40 hx41 h => dt k 2 rfl (by kernel_rfl) rfl s (fun _ _ _ => id) (fun w s => r_ixa hp4 hx41 k ts80 rfl rfl rfl) fun a k => dt k 3 rfl (by kernel_rfl) rfl s (fun _ _ _ => id) (fun w s => r_lde hp4 ((hMd.step s).a00 (Enc.rd_lt hp4)) hx41 ta171 k rfl rfl) fun a k => dp k 4 rfl (by kernel_rfl) rfl s (fun _ _ _ => id) rfl fun a k => dp k 5 rfl (by kernel_rfl) rfl s (fun _ _ _ => id) rfl fun a k => oE h fun x42 hx43 h => dt k 6 rfl (by kernel_rfl) rfl s (fun _ _ _ => id) (fun w s => r_ixa hp8 hx43 k ts80 rfl rfl rfl) fun a k => dt k 7 rfl (by kernel_rfl) rfl s (fun _ _ _ => id) (fun w s => r_lde hp8 ((hMd.step s).a00 (Enc.rd_lt hp8)) hx43 ta171 k rfl rfl) fun a k => d_one 8 (by kernel_rfl) rfl ?_
     refine oE h fun x44 hx45 h => cE k m call169 rfl rfl rfl (c_laws_eqSpot fu (x40 : Spot) (x42 : Spot)  hx45) fun w47 e a k m => ?_
     have s := s.trans e (by simp)
     refine wpList_nil ⟨s, ?_⟩
     refine dp k 9 rfl (by kernel_rfl) rfl s (fun _ _ _ => id) rfl fun a k => d_done (by kernel_rfl) ((nm_then ?_))
     refine cI h k rfl (fun hb48 h => ?_) fun hb48 h => ?_
     · refine wr (pN 1 k rfl fun a k => nn (wp_ret (rt_block (rt_then (rt_then (rt_block (rt_then ?_)))))))
       refine fS h k m rfl rfl
     refine wp_skip (nm_block (nm_then ?_))
     refine wp_region_lit (pN 3 k rfl fun a k => nn ?_)
     exact ⟨w64 (i36 + 1), k.keep [0, 1, 5] rfl, m.sel [] rfl (by decide), h⟩
   refine wp_exit (ex_then (ex_then (ex_same (nm_then ?_))))
   refine wr (pN 1 k rfl fun a k => nn (wp_ret (fS h k m rfl rfl)))
 exact ⟨0, k.keep [0, 1, 5] rfl, m.sel [] rfl (by decide), h⟩

end Go.Proofs.YthjbcfefkdbgoaaGreat
