/- FnExactIsRival: the walks of functions that the law reaches, part 5. Printed by gen.py. -/
import Derived.Test.YthjbcfefkdbgoaaGreatExactIsRivalW4
set_option maxRecDepth 20000
set_option linter.unusedSimpArgs false
set_option linter.unusedVariables false
namespace Go.Proofs.YthjbcfefkdbgoaaGreat
open Go Go.RowKit
open Enc (rd ow)
open Arg (argv)
open Ret (retv)
open Go.Proofs.Tryz

theorem ta28 : TA Tryz.prog 28 10 := ⟨Tryz.isAgg28, sizeOf28⟩

def d_impl_thereOf_1 (fu : Nat) (u1 : Int) (x2 : Int) : Option (Bool) :=
  obind (d_impl_in fu u1 0 (w64 (x2 - 1))) fun x5 => some (!x5)

def d_slices_IndexFunc_int_int_L1_B (fu : Nat)  (sv1 : List Int) (f5 : Int → Option Bool) (k1 : Int → Option (Int)) (x32 : Int) : Option (Int) :=
  bif (decide (x32 < ((sv1.length : Int)))) then obind (ix sv1 x32) fun x35 => obind (f5 x35) fun x37 => bif x37 then some (x32) else k1 (w64 (x32 + 1)) else some ((-1))
def d_slices_IndexFunc_int_int_L1 (fu : Nat)  (sv1 : List Int) (f5 : Int → Option Bool) : Nat → Int → Option (Int)
  | 0 => fun _ => none
  | n + 1 => d_slices_IndexFunc_int_int_L1_B fu sv1 f5 (d_slices_IndexFunc_int_int_L1 fu sv1 f5 n)
theorem d_slices_IndexFunc_int_int_L1_s (fu : Nat)  (sv1 : List Int) (f5 : Int → Option Bool) (n : Nat) : d_slices_IndexFunc_int_int_L1 fu sv1 f5 (n + 1) = d_slices_IndexFunc_int_int_L1_B fu sv1 f5 (d_slices_IndexFunc_int_int_L1 fu sv1 f5 n) := rfl

def d_slices_IndexFunc_int_int (fu : Nat) (sv1 : List Int) (f5 : Int → Option Bool) : Option (Int) :=
  d_slices_IndexFunc_int_int_L1 fu sv1 f5 fu 0

def d_slices_DeleteFunc_int_int_J1 (fu : Nat) (k3 : List Int → Int → Int → Option ((List Int))) (j87 : Int) (x102 : List Int) (i105 : Int) : Option ((List Int)) :=
  k3 x102 i105 (w64 (j87 + 1))

def d_slices_DeleteFunc_int_int_L1_B (fu : Nat)  (f5 : Int → Option Bool) (k3 : List Int → Int → Int → Option ((List Int))) (x83 : List Int) (i86 : Int) (j87 : Int) : Option ((List Int)) :=
  bif (decide (j87 < ((x83.length : Int)))) then obind (ix x83 j87) fun x106 => obind (f5 x106) fun x108 => bif (!x108) then obind (ix x83 i86) fun x113 => d_slices_DeleteFunc_int_int_J1 fu k3 j87 (setx x83 i86 x106) (w64 (i86 + 1)) else d_slices_DeleteFunc_int_int_J1 fu k3 j87 x83 i86 else obind (sls x83 i86 (x83.length : Int)) fun x117 => obind (sls (clrd x83 i86) 0 i86) fun x124 => some (x124)
def d_slices_DeleteFunc_int_int_L1 (fu : Nat)  (f5 : Int → Option Bool) : Nat → List Int → Int → Int → Option ((List Int))
  | 0 => fun _ _ _ => none
  | n + 1 => d_slices_DeleteFunc_int_int_L1_B fu f5 (d_slices_DeleteFunc_int_int_L1 fu f5 n)
theorem d_slices_DeleteFunc_int_int_L1_s (fu : Nat)  (f5 : Int → Option Bool) (n : Nat) : d_slices_DeleteFunc_int_int_L1 fu f5 (n + 1) = d_slices_DeleteFunc_int_int_L1_B fu f5 (d_slices_DeleteFunc_int_int_L1 fu f5 n) := rfl

def d_slices_DeleteFunc_int_int (fu : Nat) (sv1 : List Int) (f5 : Int → Option Bool) : Option ((List Int)) :=
  obind (d_slices_IndexFunc_int_int fu sv1 f5) fun x14 => bif (x14 == ((-1))) then some (sv1) else d_slices_DeleteFunc_int_int_L1 fu f5 fu sv1 x14 (w64 (x14 + 1))

def d_impl_thereOf (fu : Nat) (r1 : Request) (units5 : List Int) : Option ((List Int)) :=
  obind (d_impl_Units fu r1) fun x21 => obind (d_slices_Clone_int_int fu units5) fun x35 => obind (d_slices_DeleteFunc_int_int fu x35 (fun y44 => d_impl_thereOf_1 fu y44 ((x21.length : Int)))) fun x47 => some (x47)

def d_slices_Equal_int_int_L1_B (fu : Nat)  (sv1 : List Int) (sv5 : List Int) (k1 : Int → Option (Bool)) (x28 : Int) : Option (Bool) :=
  bif (decide (x28 < ((sv1.length : Int)))) then obind (ix sv1 x28) fun x32 => obind (ix sv5 x28) fun x34 => bif (x32 != x34) then some (false) else k1 (w64 (x28 + 1)) else some (true)
def d_slices_Equal_int_int_L1 (fu : Nat)  (sv1 : List Int) (sv5 : List Int) : Nat → Int → Option (Bool)
  | 0 => fun _ => none
  | n + 1 => d_slices_Equal_int_int_L1_B fu sv1 sv5 (d_slices_Equal_int_int_L1 fu sv1 sv5 n)
theorem d_slices_Equal_int_int_L1_s (fu : Nat)  (sv1 : List Int) (sv5 : List Int) (n : Nat) : d_slices_Equal_int_int_L1 fu sv1 sv5 (n + 1) = d_slices_Equal_int_int_L1_B fu sv1 sv5 (d_slices_Equal_int_int_L1 fu sv1 sv5 n) := rfl

def d_slices_Equal_int_int (fu : Nat) (sv1 : List Int) (sv5 : List Int) : Option (Bool) :=
  bif (((sv1.length : Int)) != ((sv5.length : Int))) then some (false) else d_slices_Equal_int_int_L1 fu sv1 sv5 fu 0

def d_impl_IsPacking_J1 (fu : Nat) (k7 : List Int → Int → Option (Bool)) (x184 : Int) (all216 : List Int) : Option (Bool) :=
  k7 all216 (w64 (x184 + 1))

def d_impl_IsPacking_J2 (fu : Nat) (k7 : List Int → Int → Option (Bool)) (all179 : List Int) (x184 : Int) (x221 : List Int)  : Option (Bool) :=
  obind (apnd 8 all179 x221) fun x237 => d_impl_IsPacking_J1 fu k7 x184 x237

def d_impl_IsPacking_L1_B (fu : Nat)  (r1 : Request) (units5 : List Int) (cartons9 : List (List Int)) (x30 : Typ × Bool) (k7 : List Int → Int → Option (Bool)) (all179 : List Int) (x184 : Int) : Option (Bool) :=
  bif (decide (x184 < ((cartons9.length : Int)))) then obind (ix cartons9 x184) fun x221 => bif (((x221.length : Int)) == 0) then some (false) else obind (d_impl_within fu r1 x221 x30.1) fun x244 => bif (!x244) then some (false) else d_impl_IsPacking_J2 fu k7 all179 x184 x221 else obind (d_impl_thereOf fu r1 units5) fun x249 => obind (d_slices_Sort_int_int fu all179) fun x258 => obind (d_slices_Sort_int_int fu x249) fun x265 => obind (d_slices_Equal_int_int fu x258 x265) fun x272 => some (x272)
def d_impl_IsPacking_L1 (fu : Nat)  (r1 : Request) (units5 : List Int) (cartons9 : List (List Int)) (x30 : Typ × Bool) : Nat → List Int → Int → Option (Bool)
  | 0 => fun _ _ => none
  | n + 1 => d_impl_IsPacking_L1_B fu r1 units5 cartons9 x30 (d_impl_IsPacking_L1 fu r1 units5 cartons9 x30 n)
theorem d_impl_IsPacking_L1_s (fu : Nat)  (r1 : Request) (units5 : List Int) (cartons9 : List (List Int)) (x30 : Typ × Bool) (n : Nat) : d_impl_IsPacking_L1 fu r1 units5 cartons9 x30 (n + 1) = d_impl_IsPacking_L1_B fu r1 units5 cartons9 x30 (d_impl_IsPacking_L1 fu r1 units5 cartons9 x30 n) := rfl

def d_impl_IsPacking (fu : Nat) (r1 : Request) (units5 : List Int) (cartons9 : List (List Int)) : Option (Bool) :=
  obind (d_impl_sound fu r1) fun x25 => bif (!x25) then some (false) else obind (d_impl_MasterOf fu r1) fun x30 => d_impl_IsPacking_L1 fu r1 units5 cartons9 x30 fu (([] : List Int)) 0

def d_impl_mutual (fu : Nat) (pairs1 : List Pair) (a5 : Int) (b6 : Int) : Option (Bool) :=
  obind (d_impl_Beside fu pairs1 a5 b6) fun x7 => bif x7 then obind (d_impl_Beside fu pairs1 b6 a5) fun x12 => some (x12) else some (false)

def d_impl_mayLie_1_1 (fu : Nat) (y1 : Item) (x2 : Request) (x14 : Item) : Option (Bool) :=
  obind (d_impl_mutual fu x2.fPairs x14.fClass y1.fClass) fun x20 => some (!x20)

def d_impl_mayLie_1 (fu : Nat) (x1 : Item) (x2 : List Item) (x8 : Request) : Option (Bool) :=
  obind (d_slices_ContainsFunc_impl_Item_impl_Item fu x2 (fun y23 => d_impl_mayLie_1_1 fu y23 x8 x1)) fun x26 => some (x26)

def d_impl_mayLie (fu : Nat) (r1 : Request) (content5 : List Int) (u9 : Int) : Option (Bool) :=
  obind (d_impl_itemsOf fu r1 (([u9] : List Int))) fun x27 => obind (d_impl_itemsOf fu r1 content5) fun x41 => obind (d_slices_ContainsFunc_impl_Item_impl_Item fu x41 (fun y50 => d_impl_mayLie_1 fu y50 x27 r1)) fun x53 => some (!x53)

def d_impl_IsRival_1_1 (fu : Nat) (u1 : Int) (x2 : Request) (x14 : List Int) : Option (Bool) :=
  obind (d_impl_mayLie fu x2 x14 u1) fun x20 => some (!x20)

def d_slices_ContainsFunc_int_int (fu : Nat) (sv1 : List Int) (f5 : Int → Option Bool) : Option (Bool) :=
  obind (d_slices_IndexFunc_int_int fu sv1 f5) fun x14 => some (decide (x14 ≥ 0))

def d_impl_IsRival_1 (fu : Nat) (l1 : List Int) (x5 : Request) : Option (Bool) :=
  obind (d_slices_ContainsFunc_int_int fu l1 (fun y20 => d_impl_IsRival_1_1 fu y20 x5 l1)) fun x23 => some (x23)

def d_slices_IndexFunc_ints_int_L1_B (fu : Nat)  (sv1 : List (List Int)) (f5 : (List Int) → Option Bool) (k1 : Int → Option (Int)) (x46 : Int) : Option (Int) :=
  bif (decide (x46 < ((sv1.length : Int)))) then obind (ix sv1 x46) fun x49 => obind (f5 x49) fun x58 => bif x58 then some (x46) else k1 (w64 (x46 + 1)) else some ((-1))
def d_slices_IndexFunc_ints_int_L1 (fu : Nat)  (sv1 : List (List Int)) (f5 : (List Int) → Option Bool) : Nat → Int → Option (Int)
  | 0 => fun _ => none
  | n + 1 => d_slices_IndexFunc_ints_int_L1_B fu sv1 f5 (d_slices_IndexFunc_ints_int_L1 fu sv1 f5 n)
theorem d_slices_IndexFunc_ints_int_L1_s (fu : Nat)  (sv1 : List (List Int)) (f5 : (List Int) → Option Bool) (n : Nat) : d_slices_IndexFunc_ints_int_L1 fu sv1 f5 (n + 1) = d_slices_IndexFunc_ints_int_L1_B fu sv1 f5 (d_slices_IndexFunc_ints_int_L1 fu sv1 f5 n) := rfl

def d_slices_IndexFunc_ints_int (fu : Nat) (sv1 : List (List Int)) (f5 : (List Int) → Option Bool) : Option (Int) :=
  d_slices_IndexFunc_ints_int_L1 fu sv1 f5 fu 0

def d_slices_ContainsFunc_ints_int (fu : Nat) (sv1 : List (List Int)) (f5 : (List Int) → Option Bool) : Option (Bool) :=
  obind (d_slices_IndexFunc_ints_int fu sv1 f5) fun x14 => some (decide (x14 ≥ 0))

def d_impl_IsRival (fu : Nat) (r1 : Request) (cartons5 : List (List Int)) : Option (Bool) :=
  obind (d_impl_Units fu r1) fun x22 => obind (d_impl_places fu ((x22.length : Int))) fun x32 => obind (d_impl_IsPacking fu r1 x32 cartons5) fun x42 => bif (!x42) then some (false) else obind (d_slices_ContainsFunc_ints_int fu cartons5 (fun y47 => d_impl_IsRival_1 fu y47 r1)) fun x50 => some (!x50)

def d_laws_eqPallet (fu : Nat) (a1 : Pallet) (b2 : Pallet) : Option (Bool) :=
  bif (a1.fW != b2.fW) then some (false) else bif (a1.fD != b2.fD) then some (false) else bif (a1.fH != b2.fH) then some (false) else bif (a1.fGram != b2.fGram) then some (false) else some (true)

def d_laws_eqPair (fu : Nat) (a1 : Pair) (b2 : Pair) : Option (Bool) :=
  bif (a1.fA != b2.fA) then some (false) else bif (a1.fB != b2.fB) then some (false) else some (true)

def d_laws_eqPairS_L1_B (fu : Nat)  (a1 : List Pair) (b5 : List Pair) (k1 : Int → Option (Bool)) (i36 : Int) : Option (Bool) :=
  bif (decide (i36 < ((a1.length : Int)))) then obind (ix a1 i36) fun x40 => obind (ix b5 i36) fun x42 => obind (d_laws_eqPair fu x40 x42) fun x44 => bif (!x44) then some (false) else k1 (w64 (i36 + 1)) else some (true)
def d_laws_eqPairS_L1 (fu : Nat)  (a1 : List Pair) (b5 : List Pair) : Nat → Int → Option (Bool)
  | 0 => fun _ => none
  | n + 1 => d_laws_eqPairS_L1_B fu a1 b5 (d_laws_eqPairS_L1 fu a1 b5 n)
theorem d_laws_eqPairS_L1_s (fu : Nat)  (a1 : List Pair) (b5 : List Pair) (n : Nat) : d_laws_eqPairS_L1 fu a1 b5 (n + 1) = d_laws_eqPairS_L1_B fu a1 b5 (d_laws_eqPairS_L1 fu a1 b5 n) := rfl

def d_laws_eqPairS (fu : Nat) (a1 : List Pair) (b5 : List Pair) : Option (Bool) :=
  bif (((a1.length : Int)) != ((b5.length : Int))) then some (false) else d_laws_eqPairS_L1 fu a1 b5 fu 0

def d_laws_eqType (fu : Nat) (a1 : Typ) (b2 : Typ) : Option (Bool) :=
  bif (a1.fId != b2.fId) then some (false) else bif (a1.fW != b2.fW) then some (false) else bif (a1.fH != b2.fH) then some (false) else bif (a1.fD != b2.fD) then some (false) else bif (a1.fTare != b2.fTare) then some (false) else bif (a1.fGram != b2.fGram) then some (false) else bif (a1.fCost != b2.fCost) then some (false) else some (true)

def d_laws_eqTypeS_L1_B (fu : Nat)  (a1 : List Typ) (b5 : List Typ) (k1 : Int → Option (Bool)) (i36 : Int) : Option (Bool) :=
  bif (decide (i36 < ((a1.length : Int)))) then obind (ix a1 i36) fun x40 => obind (ix b5 i36) fun x42 => obind (d_laws_eqType fu x40 x42) fun x44 => bif (!x44) then some (false) else k1 (w64 (i36 + 1)) else some (true)
def d_laws_eqTypeS_L1 (fu : Nat)  (a1 : List Typ) (b5 : List Typ) : Nat → Int → Option (Bool)
  | 0 => fun _ => none
  | n + 1 => d_laws_eqTypeS_L1_B fu a1 b5 (d_laws_eqTypeS_L1 fu a1 b5 n)
theorem d_laws_eqTypeS_L1_s (fu : Nat)  (a1 : List Typ) (b5 : List Typ) (n : Nat) : d_laws_eqTypeS_L1 fu a1 b5 (n + 1) = d_laws_eqTypeS_L1_B fu a1 b5 (d_laws_eqTypeS_L1 fu a1 b5 n) := rfl

def d_laws_eqTypeS (fu : Nat) (a1 : List Typ) (b5 : List Typ) : Option (Bool) :=
  bif (((a1.length : Int)) != ((b5.length : Int))) then some (false) else d_laws_eqTypeS_L1 fu a1 b5 fu 0

def d_laws_eqItem (fu : Nat) (a1 : Item) (b2 : Item) : Option (Bool) :=
  bif (a1.fId != b2.fId) then some (false) else bif (a1.fW != b2.fW) then some (false) else bif (a1.fH != b2.fH) then some (false) else bif (a1.fD != b2.fD) then some (false) else bif (a1.fGram != b2.fGram) then some (false) else bif (a1.fClass != b2.fClass) then some (false) else bif (a1.fCount != b2.fCount) then some (false) else some (true)

def d_laws_eqItemS_L1_B (fu : Nat)  (a1 : List Item) (b5 : List Item) (k1 : Int → Option (Bool)) (i36 : Int) : Option (Bool) :=
  bif (decide (i36 < ((a1.length : Int)))) then obind (ix a1 i36) fun x40 => obind (ix b5 i36) fun x42 => obind (d_laws_eqItem fu x40 x42) fun x44 => bif (!x44) then some (false) else k1 (w64 (i36 + 1)) else some (true)
def d_laws_eqItemS_L1 (fu : Nat)  (a1 : List Item) (b5 : List Item) : Nat → Int → Option (Bool)
  | 0 => fun _ => none
  | n + 1 => d_laws_eqItemS_L1_B fu a1 b5 (d_laws_eqItemS_L1 fu a1 b5 n)
theorem d_laws_eqItemS_L1_s (fu : Nat)  (a1 : List Item) (b5 : List Item) (n : Nat) : d_laws_eqItemS_L1 fu a1 b5 (n + 1) = d_laws_eqItemS_L1_B fu a1 b5 (d_laws_eqItemS_L1 fu a1 b5 n) := rfl

def d_laws_eqItemS (fu : Nat) (a1 : List Item) (b5 : List Item) : Option (Bool) :=
  bif (((a1.length : Int)) != ((b5.length : Int))) then some (false) else d_laws_eqItemS_L1 fu a1 b5 fu 0

def d_laws_eqRequest (fu : Nat) (a1 : Request) (b5 : Request) : Option (Bool) :=
  bif (a1.fWay != b5.fWay) then some (false) else obind (d_laws_eqPallet fu a1.fPallet b5.fPallet) fun x34 => bif (!x34) then some (false) else bif (a1.fClasses != b5.fClasses) then some (false) else obind (d_laws_eqPairS fu a1.fPairs b5.fPairs) fun x40 => bif (!x40) then some (false) else obind (d_laws_eqTypeS fu a1.fTypes b5.fTypes) fun x45 => bif (!x45) then some (false) else bif (a1.fMaster != b5.fMaster) then some (false) else obind (d_laws_eqItemS fu a1.fItems b5.fItems) fun x51 => bif (!x51) then some (false) else some (true)

def d_laws_eqIntS_L1_B (fu : Nat)  (a1 : List Int) (b5 : List Int) (k1 : Int → Option (Bool)) (i28 : Int) : Option (Bool) :=
  bif (decide (i28 < ((a1.length : Int)))) then obind (ix a1 i28) fun x32 => obind (ix b5 i28) fun x34 => bif (x32 != x34) then some (false) else k1 (w64 (i28 + 1)) else some (true)
def d_laws_eqIntS_L1 (fu : Nat)  (a1 : List Int) (b5 : List Int) : Nat → Int → Option (Bool)
  | 0 => fun _ => none
  | n + 1 => d_laws_eqIntS_L1_B fu a1 b5 (d_laws_eqIntS_L1 fu a1 b5 n)
theorem d_laws_eqIntS_L1_s (fu : Nat)  (a1 : List Int) (b5 : List Int) (n : Nat) : d_laws_eqIntS_L1 fu a1 b5 (n + 1) = d_laws_eqIntS_L1_B fu a1 b5 (d_laws_eqIntS_L1 fu a1 b5 n) := rfl

def d_laws_eqIntS (fu : Nat) (a1 : List Int) (b5 : List Int) : Option (Bool) :=
  bif (((a1.length : Int)) != ((b5.length : Int))) then some (false) else d_laws_eqIntS_L1 fu a1 b5 fu 0

def d_laws_eqIntSS_L1_B (fu : Nat)  (a1 : List (List Int)) (b5 : List (List Int)) (k1 : Int → Option (Bool)) (i64 : Int) : Option (Bool) :=
  bif (decide (i64 < ((a1.length : Int)))) then obind (ix a1 i64) fun x68 => obind (ix b5 i64) fun x77 => obind (d_laws_eqIntS fu x68 x77) fun x86 => bif (!x86) then some (false) else k1 (w64 (i64 + 1)) else some (true)
def d_laws_eqIntSS_L1 (fu : Nat)  (a1 : List (List Int)) (b5 : List (List Int)) : Nat → Int → Option (Bool)
  | 0 => fun _ => none
  | n + 1 => d_laws_eqIntSS_L1_B fu a1 b5 (d_laws_eqIntSS_L1 fu a1 b5 n)
theorem d_laws_eqIntSS_L1_s (fu : Nat)  (a1 : List (List Int)) (b5 : List (List Int)) (n : Nat) : d_laws_eqIntSS_L1 fu a1 b5 (n + 1) = d_laws_eqIntSS_L1_B fu a1 b5 (d_laws_eqIntSS_L1 fu a1 b5 n) := rfl

def d_laws_eqIntSS (fu : Nat) (a1 : List (List Int)) (b5 : List (List Int)) : Option (Bool) :=
  bif (((a1.length : Int)) != ((b5.length : Int))) then some (false) else d_laws_eqIntSS_L1 fu a1 b5 fu 0

def d_laws_FnExactIsRival (fu : Nat) (aR1 : Request) (aCartons5 : List (List Int)) : Option (Bool) :=
  obind (d_laws_szRequest fu aR1 1048576) fun x21 => bif (decide (x21 < 0)) then some (true) else obind (d_laws_szIntSS fu aCartons5 x21) fun x26 => bif (decide (x26 < 0)) then some (true) else obind (d_laws_toRequest fu aR1) fun x31 => obind (d_laws_toIntSS fu aCartons5) fun x49 => obind (d_spec_IsRival fu x31 x49) fun x58 => obind (d_laws_toRequest fu aR1) fun x62 => obind (d_laws_toIntSS fu aCartons5) fun x85 => obind (d_impl_IsRival fu x62 x85) fun x94 => bif (!(x94 == x58)) then some (false) else obind (d_laws_toRequest fu aR1) fun x100 => obind (d_laws_eqRequest fu x62 x100) fun x119 => bif (!x119) then some (false) else obind (d_laws_toIntSS fu aCartons5) fun x124 => obind (d_laws_eqIntSS fu x85 x124) fun x133 => bif (!x133) then some (false) else some (true)

theorem c_impl_thereOf_1 (fu : Nat) {w0 : World} (u1 : Int) (x2 : Int) {b3 : Nat} (hp4 : bx w0 b3 [.int .i64 x2] 3) {r : Bool}
    (h : d_impl_thereOf_1 fu u1 x2 = some r) :
    Calls Tryz.prog 193 #[.int .i64 u1, .pointer (some (⟨b3, 0, none⟩ : Addr))] w0 fun e w => e = .returned (.bool (r)) ∧ Ext [] w0 w := by
 refine enter (vs := [_, _]) func193 rfl ntmps193 rfl fun a k => ?_
 have m := St.start w0
 unfold d_impl_thereOf_1 at h
 refine wr (pN 1 k rfl fun a k => nn (wr (pN 1 k rfl fun a k => sv k rfl (r_ld1 t13 (r := []) (hp4.at (m.a00 hp4.lt1) 0 1 rfl rfl rfl) k rfl rfl) fun a k => pN 1 k rfl fun a k => oE h fun x5 hx6 h => cE k m call99 rfl rfl rfl (c_impl_in fu _ _ _  hx6) fun w8 e a k m => pN 2 k rfl fun a k => nn (wp_ret (fS h k m rfl rfl)))))
theorem c_slices_IndexFunc_int_int (fu : Nat) {w0 : World} (sv1 : List Int) (f5 : Int → Option Bool) {v2 : Value} {F3 : List Nat} (hp4 : rd w0 F3 [v2] sv1) {v6 : Value} (hp7 : FnOk1 Tryz.prog w0 v6 f5) {r : Int}
    (h : d_slices_IndexFunc_int_int fu sv1 f5 = some r) :
    Calls Tryz.prog 166 #[v2, v6] w0 fun e w => e = .returned (.int .i64 r) ∧ Ext [] w0 w := by
 refine enter (vs := [_, _]) func166 rfl ntmps166 rfl fun a k => ?_
 have m := St.start w0
 obtain ⟨fid8, cap9, rfl, hcl10, hcc11⟩ := hp7
 unfold d_slices_IndexFunc_int_int at h
 refine wr (pN 1 k rfl fun a k => nn (wp_seq (wr (pN 1 k rfl fun a k => sv k rfl (r_len (α := Int) hp4 k underlying29 rfl rfl) fun a k => pN 1 k rfl fun a k => nn (wp_block (c_loop (fun n a w => ∃ (x32 : Int), K 19 [(0, v2), (1, (.func (.func fid8) #[] cap9.toArray)), (7, .int .i64 ((sv1.length : Int))), (8, .int .i64 x32)] a ∧ St [] w0 w [] ∧ d_slices_IndexFunc_int_int_L1 fu sv1 f5 n x32 = some r) ?_ ?_ fu _ _ ?_))))))
 · rintro a w ⟨_, _, _, h⟩
   exact nS h
 · rintro m33 a w31 ⟨x32, k, m, h⟩
   rw [d_slices_IndexFunc_int_int_L1_s] at h
   unfold d_slices_IndexFunc_int_int_L1_B at h
   refine wr (pN 1 k rfl fun a k => nn (wp_seq (cI h k rfl (fun hb34 h => ?_) fun hb34 h => ?_)))
   · refine wp_skip (nm_then ?_)
     refine wp_seq (wp_block (wr (pN 2 k rfl fun a k => nn (wr (pN 3 k rfl fun a k => oE h fun x35 hx36 h => sv k rfl (r_ixa hp4 hx36 k ts29 rfl rfl rfl) fun a k => sv k rfl (r_lde1 hp4 (m.a00 (Enc.rd_lt hp4)) hx36 0 t13 k rfl rfl rfl rfl) fun a k => oE h fun x37 hx38 h => s_callv k hcl10 rfl rfl rfl rfl rfl rfl (hcc11 _ _ _ _ m.ext rfl hx38) fun e39 w40 hR => ?_)))))
     obtain ⟨rfl, e⟩ := hR
     refine ⟨_, rfl, fun a k => ?_⟩
     have m := m.step e
     refine nn (cI h k rfl (fun hb41 h => ?_) fun hb41 h => ?_)
     · refine wr (pN 2 k rfl fun a k => nn (wp_ret (rt_block (rt_then (rt_then (rt_block (rt_then ?_)))))))
       refine fS h k m rfl rfl
     refine wp_skip (nm_block (nm_then ?_))
     refine wp_region_lit (pN 2 k rfl fun a k => nn ?_)
     exact ⟨w64 (x32 + 1), k.keep [0, 1, 7, 8] rfl, m.sel [] rfl (by decide), h⟩
   refine wp_exit (ex_then (ex_then (ex_same (nm_then ?_))))
   refine wr (pN 1 k rfl fun a k => nn (wp_ret (fS h k m rfl rfl)))
 exact ⟨0, k.keep [0, 1, 7, 8] rfl, m.sel [] rfl (by decide), h⟩
theorem c_slices_DeleteFunc_int_int (fu : Nat) {w0 : World} (sv1 : List Int) (f5 : Int → Option Bool) {v2 : Value} {F3 : List Nat} (hp4 : ow w0 F3 [v2] sv1) {v6 : Value} (hp7 : FnOkX1 F3 Tryz.prog w0 v6 f5) {r : (List Int)}
    (h : d_slices_DeleteFunc_int_int fu sv1 f5 = some r) :
    Calls Tryz.prog 125 #[v2, v6] w0 fun e w => ∃ (v0 : Value) (G0 : List Nat), e = .returned (v0) ∧ Ext F3 w0 w ∧ ow w G0 [v0] r ∧ (∀ b ∈ G0, b ∈ F3 ∨ w0.heap.size ≤ b) := by
 refine enter (vs := [_, _]) func125 rfl ntmps125 rfl fun a k => ?_
 have m := St.start1 w0 (Enc.rd_lt (Enc.ow_rd hp4)) (Enc.ow_nd hp4)
 obtain ⟨fid8, cap9, rfl, hcl10, hcc11⟩ := hp7
 unfold d_slices_DeleteFunc_int_int at h
 refine wr (pN 1 k rfl fun a k => nn (wr (pN 2 k rfl fun a k => oE h fun x14 hx15 h => cE k m call166 rfl rfl rfl (c_slices_IndexFunc_int_int fu _ _ (Enc.rd_agr (Enc.ow_rd hp4) (m.a 0 rfl)) ⟨_, _, rfl, hcl10, fun w y12 v13 r e => hcc11 w y12 v13 r (m.ext.trans e (by simp))⟩ hx15) fun w17 e a k m => pN 1 k rfl fun a k => nn (wp_seq (wr (pN 2 k rfl fun a k => nn (cI h k rfl (fun hb18 h => ?_) fun hb18 h => ?_)))))))
 · refine wr (pN 2 k rfl fun a k => nn (wp_ret (rt_then ?_)))
   cases h
   exact finR1 k rfl (RV.tmp k rfl) ⟨_, F3, rfl, m.ext, (Enc.ow_agr hp4 (m.a 0 rfl)), (fun b hb => m.lo b (mem_fps (i := 0) rfl hb))⟩
 refine wp_skip (nm_then ?_)
 refine wp_seq (wr (pN 3 k rfl fun a k => nn (wp_block (c_loop (fun n a w => ∃ (x83 : List Int) (u84 : World) (i86 : Int) (j87 : Int), K 42 [(0, v2), (1, (.func (.func fid8) #[] cap9.toArray)), (5, .int .i64 i86), (6, .int .i64 j87)] a ∧ St F3 w0 w [(F3, u84)] ∧ ow u84 F3 [v2] x83 ∧ d_slices_DeleteFunc_int_int_L1 fu f5 n x83 i86 j87 = some r) ?_ ?_ fu _ _ ?_))))
 · rintro a w ⟨_, _, _, _, _, _, _, h⟩
   exact nS h
 · rintro m88 a w82 ⟨x83, u84, i86, j87, k, m, hf85, h⟩
   rw [d_slices_DeleteFunc_int_int_L1_s] at h
   unfold d_slices_DeleteFunc_int_int_L1_B at h
   refine wp_seq (wr (pN 2 k rfl fun a k => sv k rfl (r_len (α := Int) (Enc.ow_rd hf85) k underlying29 rfl rfl) fun a k => pN 1 k rfl fun a k => nn (cI h k rfl (fun hb89 h => ?_) fun hb89 h => ?_)))
   · refine wp_skip (nm_then ?_)
     refine c_cut (fun a w => ∃ (x102 : List Int) (u103 : World) (i105 : Int), K 42 [(0, v2), (1, (.func (.func fid8) #[] cap9.toArray)), (5, .int .i64 i105), (6, .int .i64 j87)] a ∧ St F3 w0 w [(F3, u103)] ∧ ow u103 F3 [v2] x102 ∧ d_slices_DeleteFunc_int_int_J1 fu (d_slices_DeleteFunc_int_int_L1 fu f5 m88) j87 x102 i105 = some r) ?_ ?_
     · rintro a w101 ⟨x102, u103, i105, k, m, hf104, h⟩
       unfold d_slices_DeleteFunc_int_int_J1 at h
       refine wp_region_lit (pN 3 k rfl fun a k => nn ?_)
       exact ⟨x102, u103, i105, w64 (j87 + 1), k.keep [0, 1, 5, 6] rfl, m.sel [0] rfl (by decide), hf104, h⟩
     refine wp_block (wr (pN 2 k rfl fun a k => oE h fun x106 hx107 h => sv k rfl (r_ixa (Enc.ow_rd hf85) hx107 k ts29 rfl rfl rfl) fun a k => sv k rfl (r_lde1 (Enc.ow_rd hf85) (m.a 0 rfl) hx107 0 t13 k rfl rfl rfl rfl) fun a k => pN 1 k rfl fun a k => nn (wr (pN 2 k rfl fun a k => oE h fun x108 hx109 h => s_callv k hcl10 rfl rfl rfl rfl rfl rfl (hcc11 _ _ _ _ m.ext rfl hx109) fun e110 w111 hR => ?_))))
     obtain ⟨rfl, e⟩ := hR
     refine ⟨_, rfl, fun a k => ?_⟩
     have m := m.step e
     refine pN 1 k rfl fun a k => nn (cI h k rfl (fun hb112 h => ?_) fun hb112 h => ?_)
     · refine wr (pN 3 k rfl fun a k => oE h fun x113 hx114 h => sv k rfl (r_ixa (Enc.ow_rd hf85) hx114 k ts29 rfl rfl rfl) fun a k => s_ste (α := Int) (sz := 1) (y := x106) sizeOf3 hx114 m 0 hf85 0 k rfl rfl rfl rfl rfl rfl rfl rfl rfl rfl rfl rfl fun w115 a k e m hf116 => nn (wp_region_lit (pN 3 k rfl fun a k => wpList_nil (nm_block (nm_then ?_)))))
       exact ⟨setx x83 i86 x106, w115, w64 (i86 + 1), k.keep [0, 1, 5, 6] rfl, m.sel [0] rfl (by decide), hf116, h⟩
     refine wp_skip (nm_block (nm_then ?_))
     exact ⟨x83, u84, i86, k.keep [0, 1, 5, 6] rfl, m.sel [0] rfl (by decide), hf85, h⟩
   refine wp_exit (ex_then (ex_then (ex_same (nm_then ?_))))
   refine wr (pN 2 k rfl fun a k => oE h fun x117 hx118 h => s_slFromP (Enc.ow_rd hf85) hx118 k ts29 rfl rfl rfl rfl rfl rfl fun v119 a k hf120 hP121 => s_clr (lo := i86) te29 m 0 hf85 hP121 k rfl rfl rfl rfl rfl fun w122 a k e m hf123 => nn (wr (pN 2 k rfl fun a k => oE h fun x124 hx125 h => s_slToO hf123 hx125 k ts29 rfl rfl rfl rfl rfl rfl fun v126 a k hf127 => pN 1 k rfl fun a k => nn (wp_ret ?_))))
   cases h
   exact finR1 k rfl (RV.tmp k rfl) ⟨_, F3, rfl, m.ext, (Enc.ow_agr hf127 (m.a 0 rfl)), (fun b hb => m.lo b (mem_fps (i := 0) rfl hb))⟩
 exact ⟨sv1, w0, x14, w64 (x14 + 1), k.keep [0, 1, 5, 6] rfl, m.sel [0] rfl (by decide), hp4, h⟩
theorem c_impl_thereOf (fu : Nat) {w0 : World} (r1 : Request) (units5 : List Int) {cs2 : List Value} {F3 : List Nat} (hp4 : rd w0 F3 cs2 r1) {v6 : Value} {F7 : List Nat} (hp8 : rd w0 F7 [v6] units5) {r : (List Int)}
    (h : d_impl_thereOf fu r1 units5 = some r) :
    Calls Tryz.prog 163 #[.agg cs2.toArray, v6] w0 fun e w => ∃ (v0 : Value) (G0 : List Nat), e = .returned (v0) ∧ Ext [] w0 w ∧ ow w G0 [v0] r ∧ (∀ b ∈ G0, w0.heap.size ≤ b) := by
 refine enter (vs := [_, _]) func163 rfl ntmps163 rfl fun a k => ?_
 have m := St.start w0
 obtain ⟨v9, F10, v11, F12, v13, F14, rfl, rfl, hf15, hf16, hf17⟩ := hp4
 unfold d_impl_thereOf at h
 refine wr (s_box (cs := [.int .i64 r1.fWay, .int .i64 r1.fPallet.fW, .int .i64 r1.fPallet.fD, .int .i64 r1.fPallet.fH, .int .i64 r1.fPallet.fGram, .int .i64 r1.fClasses, v9, v11, .int .i64 r1.fMaster, v13]) m k rfl rfl rfl rfl rfl rfl fun b18 w20 a k m e hb19 => pN 1 k rfl fun a k => nn (wr (sv k rfl (r_ldB ta40 m 0 hb19 0 k rfl rfl rfl rfl rfl rfl) fun a k => oE h fun x21 hx22 h => ?_)))
 refine s_call k call84 rfl rfl rfl rfl rfl (c_impl_Units fu _ (show rd _ _ [.int .i64 r1.fWay, .int .i64 r1.fPallet.fW, .int .i64 r1.fPallet.fD, .int .i64 r1.fPallet.fH, .int .i64 r1.fPallet.fGram, .int .i64 r1.fClasses, v9, v11, .int .i64 r1.fMaster, v13] (r1 : Request) from ⟨_, _, _, _, _, _, rfl, rfl, (Enc.rd_agr hf15 (m.a00 (Enc.rd_lt hf15))), (Enc.rd_agr hf16 (m.a00 (Enc.rd_lt hf16))), (Enc.rd_agr hf17 (m.a00 (Enc.rd_lt hf17)))⟩) hx22) fun e23 w24 hR => ?_
 obtain ⟨v29, F25, rfl, e, hf26, hfr27⟩ := hR
 refine ⟨_, rfl, fun a k => ?_⟩
 have m := m.new e F25 (fun b hb => ⟨hfr27 b hb, Enc.rd_lt (Enc.ow_rd hf26) b hb⟩) (Enc.ow_nd hf26)
 refine sv k rfl (r_len (α := Int) (Enc.ow_rd hf26) k underlying29 rfl rfl) fun a k => s_alloc (cs := [.int .i64 0]) m k zeroValue3 rfl rfl rfl rfl rfl fun b30 w32 a k m e hb31 => s_stb (cs' := [.int .i64 ((x21.length : Int))]) sizeOf3 m 0 hb31 0 k rfl rfl rfl rfl rfl rfl rfl rfl rfl rfl rfl fun w33 a k e m hb34 => nn (wr (pN 1 k rfl fun a k => oE h fun x35 hx36 h => s_call k call158 rfl rfl rfl rfl rfl (c_slices_Clone_int_int fu _ (Enc.rd_agr hp8 (m.a00 (Enc.rd_lt hp8))) hx36) fun e37 w38 hR => ?_))
 obtain ⟨v43, F39, rfl, e, hf40, hfr41⟩ := hR
 refine ⟨_, rfl, fun a k => ?_⟩
 have m := m.new e F39 (fun b hb => ⟨hfr41 b hb, Enc.rd_lt (Enc.ow_rd hf40) b hb⟩) (Enc.ow_nd hf40)
 refine pN 1 k rfl fun a k => oE h fun x47 hx48 h => s_call k call125 rfl rfl rfl rfl rfl (c_slices_DeleteFunc_int_int fu _ _ (Enc.ow_agr hf40 (m.a 0 rfl)) ⟨193, [.pointer (some (⟨b30, 0, none⟩ : Addr))], rfl, call193, fun w y44 v45 r e hv46 hx => by subst hv46; have m := m.mut 0 rfl e F39 (fun b hb => ⟨.inl hb, e.lt1 (m.ltF 0 rfl) b hb⟩) (m.ndF 0 rfl); exact c_impl_thereOf_1 fu _ _ (hb34.agr (m.a 1 rfl) (by simp)) hx⟩ hx48) fun e49 w50 hR => ?_
 obtain ⟨v54, F51, rfl, e, hf52, hlo53⟩ := hR
 refine ⟨_, rfl, fun a k => ?_⟩
 have m := m.mut 0 rfl e _ (fun b hb => ⟨hlo53 b hb, Enc.rd_lt (Enc.ow_rd hf52) b hb⟩) (Enc.ow_nd hf52)
 refine pN 1 k rfl fun a k => nn (wp_ret ?_)
 cases h
 exact finR1 k rfl (RV.tmp k rfl) ⟨_, F51, rfl, m.ext, (Enc.ow_agr hf52 (m.a 0 rfl)), (m.fresh 0 rfl)⟩
theorem c_slices_Equal_int_int (fu : Nat) {w0 : World} (sv1 : List Int) (sv5 : List Int) {v2 : Value} {F3 : List Nat} (hp4 : rd w0 F3 [v2] sv1) {v6 : Value} {F7 : List Nat} (hp8 : rd w0 F7 [v6] sv5) {r : Bool}
    (h : d_slices_Equal_int_int fu sv1 sv5 = some r) :
    Calls Tryz.prog 165 #[v2, v6] w0 fun e w => e = .returned (.bool (r)) ∧ Ext [] w0 w := by
 refine enter (vs := [_, _]) func165 rfl ntmps165 rfl fun a k => ?_
 have m := St.start w0
 unfold d_slices_Equal_int_int at h
 refine wr (pN 1 k rfl fun a k => nn (wp_seq (wr (pN 1 k rfl fun a k => sv k rfl (r_len (α := Int) hp4 k underlying29 rfl rfl) fun a k => pN 1 k rfl fun a k => sv k rfl (r_len (α := Int) hp8 k underlying29 rfl rfl) fun a k => pN 1 k rfl fun a k => nn (cI h k rfl (fun hb9 h => ?_) fun hb9 h => ?_)))))
 · refine wr (pN 1 k rfl fun a k => nn (wp_ret (rt_then ?_)))
   refine fS h k m rfl rfl
 refine wp_skip (nm_then ?_)
 refine wp_seq (wr (pN 1 k rfl fun a k => sv k rfl (r_len (α := Int) hp4 k underlying29 rfl rfl) fun a k => pN 1 k rfl fun a k => nn (wp_block (c_loop (fun n a w => ∃ (x28 : Int), K 26 [(0, v2), (1, v6), (12, .int .i64 ((sv1.length : Int))), (13, .int .i64 x28)] a ∧ St [] w0 w [] ∧ d_slices_Equal_int_int_L1 fu sv1 sv5 n x28 = some r) ?_ ?_ fu _ _ ?_))))
 · rintro a w ⟨_, _, _, h⟩
   exact nS h
 · rintro m29 a w27 ⟨x28, k, m, h⟩
   rw [d_slices_Equal_int_int_L1_s] at h
   unfold d_slices_Equal_int_int_L1_B at h
   refine wr (pN 1 k rfl fun a k => nn (wp_seq (cI h k rfl (fun hb30 h => ?_) fun hb30 h => ?_)))
   · refine wp_skip (nm_then ?_)
     refine wp_seq (wp_block (wr (pN 2 k rfl fun a k => nn (wp_seq (d_go [] mixo m rfl fun w31 hMd => ?_)))))
     have m := hMd
     have s := Ext.refl ([] : List Nat) w31
     refine dp k 0 rfl (by kernel_rfl) rfl s (fun _ _ _ => id) rfl fun a k => dp k 1 rfl (by kernel_rfl) rfl s (fun _ _ _ => id) rfl fun a k => oE h fun x32 hx33 h => dt k 2 rfl (by kernel_rfl) rfl s (fun _ _ _ => id) (fun w s => r_ixa hp4 hx33 k ts29 rfl rfl rfl) fun a k => dt k 3 rfl (by kernel_rfl) rfl s (fun _ _ _ => id) (fun w s => r_lde1 hp4 ((hMd.step s).a00 (Enc.rd_lt hp4)) hx33 0 t13 k rfl rfl rfl rfl) fun a k => dp k 4 rfl (by kernel_rfl) rfl s (fun _ _ _ => id) rfl fun a k => dp k 5 rfl (by kernel_rfl) rfl s (fun _ _ _ => id) rfl fun a k => oE h fun x34 hx35 h => dt k 6 rfl (by kernel_rfl) rfl s (fun _ _ _ => id) (fun w s => r_ixa hp8 hx35 k ts29 rfl rfl rfl) fun a k => dt k 7 rfl (by kernel_rfl) rfl s (fun _ _ _ => id) (fun w s => r_lde1 hp8 ((hMd.step s).a00 (Enc.rd_lt hp8)) hx35 0 t13 k rfl rfl rfl rfl) fun a k => ?_
     refine dp k 8 rfl (by kernel_rfl) rfl s (fun _ _ _ => id) rfl fun a k => d_done (by kernel_rfl) ((nm_then ?_))
     refine cI h k rfl (fun hb36 h => ?_) fun hb36 h => ?_
     · refine wr (pN 1 k rfl fun a k => nn (wp_ret (rt_block (rt_then (rt_then (rt_block (rt_then ?_)))))))
       refine fS h k m rfl rfl
     refine wp_skip (nm_block (nm_then ?_))
     refine wp_region_lit (pN 2 k rfl fun a k => nn ?_)
     exact ⟨w64 (x28 + 1), k.keep [0, 1, 12, 13] rfl, m.sel [] rfl (by decide), h⟩
   refine wp_exit (ex_then (ex_then (ex_same (nm_then ?_))))
   refine wr (pN 1 k rfl fun a k => nn (wp_ret (fS h k m rfl rfl)))
 exact ⟨0, k.keep [0, 1, 12, 13] rfl, m.sel [] rfl (by decide), h⟩
theorem c_impl_IsPacking (fu : Nat) {w0 : World} (r1 : Request) (units5 : List Int) (cartons9 : List (List Int)) {cs2 : List Value} {F3 : List Nat} (hp4 : rd w0 F3 cs2 r1) {v6 : Value} {F7 : List Nat} (hp8 : rd w0 F7 [v6] units5) {v10 : Value} {F11 : List Nat} (hp12 : rd w0 F11 [v10] cartons9) {r : Bool}
    (h : d_impl_IsPacking fu r1 units5 cartons9 = some r) :
    Calls Tryz.prog 114 #[.agg cs2.toArray, v6, v10] w0 fun e w => e = .returned (.bool (r)) ∧ Ext [] w0 w := by
 refine enter (vs := [_, _, _]) func114 rfl ntmps114 rfl fun a k => ?_
 have m := St.start w0
 obtain ⟨v13, F14, v15, F16, v17, F18, rfl, rfl, hf19, hf20, hf21⟩ := hp4
 unfold d_impl_IsPacking at h
 refine wr (s_box (cs := [.int .i64 r1.fWay, .int .i64 r1.fPallet.fW, .int .i64 r1.fPallet.fD, .int .i64 r1.fPallet.fH, .int .i64 r1.fPallet.fGram, .int .i64 r1.fClasses, v13, v15, .int .i64 r1.fMaster, v17]) m k rfl rfl rfl rfl rfl rfl fun b22 w24 a k m e hb23 => pN 1 k rfl fun a k => nn (wp_seq (wr (sv k rfl (r_ldB ta40 m 0 hb23 0 k rfl rfl rfl rfl rfl rfl) fun a k => oE h fun x25 hx26 h => ?_))))
 refine cE k m call76 rfl rfl rfl (c_impl_sound fu _ (show rd _ _ [.int .i64 r1.fWay, .int .i64 r1.fPallet.fW, .int .i64 r1.fPallet.fD, .int .i64 r1.fPallet.fH, .int .i64 r1.fPallet.fGram, .int .i64 r1.fClasses, v13, v15, .int .i64 r1.fMaster, v17] (r1 : Request) from ⟨_, _, _, _, _, _, rfl, rfl, (Enc.rd_agr hf19 (m.a00 (Enc.rd_lt hf19))), (Enc.rd_agr hf20 (m.a00 (Enc.rd_lt hf20))), (Enc.rd_agr hf21 (m.a00 (Enc.rd_lt hf21)))⟩) hx26) fun w28 e a k m => pN 1 k rfl fun a k => nn (cI h k rfl (fun hb29 h => ?_) fun hb29 h => ?_)
 · refine wr (pN 1 k rfl fun a k => nn (wp_ret (rt_then ?_)))
   refine fS h k m rfl rfl
 refine wp_skip (nm_then ?_)
 refine wr (sv k rfl (r_ldB ta40 m 0 hb23 0 k rfl rfl rfl rfl rfl rfl) fun a k => oE h fun x30 hx31 h => cE k m call148 rfl rfl rfl (c_impl_MasterOf fu _ (show rd _ _ [.int .i64 r1.fWay, .int .i64 r1.fPallet.fW, .int .i64 r1.fPallet.fD, .int .i64 r1.fPallet.fH, .int .i64 r1.fPallet.fGram, .int .i64 r1.fClasses, v13, v15, .int .i64 r1.fMaster, v17] (r1 : Request) from ⟨_, _, _, _, _, _, rfl, rfl, (Enc.rd_agr hf19 (m.a00 (Enc.rd_lt hf19))), (Enc.rd_agr hf20 (m.a00 (Enc.rd_lt hf20))), (Enc.rd_agr hf21 (m.a00 (Enc.rd_lt hf21)))⟩) hx31) fun w33 e a k m => pN 3 k rfl fun a k => s_alloc (cs := [.int .i64 0, .int .i64 0, .int .i64 0, .int .i64 0, .int .i64 0, .int .i64 0, .int .i64 0]) m k zeroValue92 rfl rfl rfl rfl rfl fun b34 w36 a k m e hb35 => ?_)
 refine s_stb (cs' := [.int .i64 x30.1.fId, .int .i64 x30.1.fW, .int .i64 x30.1.fH, .int .i64 x30.1.fD, .int .i64 x30.1.fTare, .int .i64 x30.1.fGram, .int .i64 x30.1.fCost]) sizeOf92 m 0 hb35 0 k rfl rfl rfl rfl rfl rfl rfl rfl rfl rfl rfl fun w37 a k e m hb38 => pN 1 k rfl fun a k => nn (wr (s_bs (cs := []) (ps := []) te29 m k rfl rfl rfl rfl rfl rfl rfl (by decide) rfl (by exact (List.forall_mem_nil _)) fun g39 w40 e42 a k m e hb41 => ?_))
 have hf43 := ow_bx hb41 ([] : List Int) rfl rfl rfl
 refine pN 1 k rfl fun a k => nn (wp_seq (wr (pN 1 k rfl fun a k => sv k rfl (r_len (α := List Int) hp12 k underlying47 rfl rfl) fun a k => pN 1 k rfl fun a k => nn (wp_block (c_loop (fun n a w => ∃ (all179 : List Int) (v180 : Value) (F181 : List Nat) (u182 : World) (x184 : Int), K 52 [(1, v6), (3, .pointer (some (⟨b22, 0, none⟩ : Addr))), (7, .pointer (some (⟨b34, 0, none⟩ : Addr))), (9, v180), (22, v10), (23, .int .i64 ((cartons9.length : Int))), (24, .int .i64 x184)] a ∧ St [] w0 w [([b22], w24), ([b34], w37), (F181, u182)] ∧ ow u182 F181 [v180] all179 ∧ d_impl_IsPacking_L1 fu r1 units5 cartons9 x30 n all179 x184 = some r) ?_ ?_ fu _ _ ?_)))))
 · rintro a w ⟨_, _, _, _, _, _, _, _, h⟩
   exact nS h
 · rintro m185 a w178 ⟨all179, v180, F181, u182, x184, k, m, hf183, h⟩
   rw [d_impl_IsPacking_L1_s] at h
   unfold d_impl_IsPacking_L1_B at h
   refine wr (pN 1 k rfl fun a k => nn (wp_seq (cI h k rfl (fun hb186 h => ?_) fun hb186 h => ?_)))
   · refine wp_skip (nm_then ?_)
     refine c_cut (fun a w => ∃ (all216 : List Int) (v217 : Value) (F218 : List Nat) (u219 : World), K 52 [(1, v6), (3, .pointer (some (⟨b22, 0, none⟩ : Addr))), (7, .pointer (some (⟨b34, 0, none⟩ : Addr))), (9, v217), (22, v10), (23, .int .i64 ((cartons9.length : Int))), (24, .int .i64 x184)] a ∧ St [] w0 w [([b22], w24), ([b34], w37), (F218, u219)] ∧ ow u219 F218 [v217] all216 ∧ d_impl_IsPacking_J1 fu (d_impl_IsPacking_L1 fu r1 units5 cartons9 x30 m185) x184 all216 = some r) ?_ ?_
     · rintro a w215 ⟨all216, v217, F218, u219, k, m, hf220, h⟩
       unfold d_impl_IsPacking_J1 at h
       refine wp_region_lit (pN 2 k rfl fun a k => nn ?_)
       exact ⟨all216, v217, F218, u219, w64 (x184 + 1), k.keep [1, 3, 7, 9, 22, 23, 24] rfl, m.sel [0, 1, 2] rfl (by decide), hf220, h⟩
     refine wp_block (wr (oE h fun x221 hx222 h => sv k rfl (r_ixa hp12 hx222 k ts47 rfl rfl rfl) fun a k => ?_))
     obtain ⟨G223, cs224, hG225, hr226, hp227, hb228⟩ := rd_get hp12 (ix_some hx222).2.2
     obtain ⟨v229, rfl⟩ : ∃ v, cs224 = [v] := by obtain ⟨_, _, hq, _⟩ := hr226; exact ⟨_, hq⟩
     refine sv k rfl (r_ld1 t129 (hp227.agr (m.a00 (Enc.rd_lt hp12)) hb228) k rfl rfl) fun a k => pN 1 k rfl fun a k => nn (c_cut (fun a w => K 52 [(1, v6), (3, .pointer (some (⟨b22, 0, none⟩ : Addr))), (7, .pointer (some (⟨b34, 0, none⟩ : Addr))), (9, v180), (11, v229), (22, v10), (23, .int .i64 ((cartons9.length : Int))), (24, .int .i64 x184)] a ∧ St [] w0 w [([b22], w24), ([b34], w37), (F181, u182)] ∧ d_impl_IsPacking_J2 fu (d_impl_IsPacking_L1 fu r1 units5 cartons9 x30 m185) all179 x184 x221 = some r) ?_ ?_)
     · rintro a w236 ⟨k, m, h⟩
       unfold d_impl_IsPacking_J2 at h
       refine wp_region_lit (pN 2 k rfl fun a k => oE h fun x237 hx238 h => s_appF hx238 te29 rfl m 2 hf183 (News.rd (Enc.rd_agr hr226 (m.a00 (Enc.rd_lt hr226)))) rfl rfl k rfl rfl rfl rfl rfl rfl rfl fun v239 F240 w241 a k e m hf242 => pN 1 k rfl fun a k => wpList_nil (nm_block (nm_then ?_)))
       exact ⟨x237, v239, F240, w241, k.keep [1, 3, 7, 9, 22, 23, 24] rfl, m.sel [0, 1, 2] rfl (by decide), hf242, h⟩
     refine wr (pN 1 k rfl fun a k => sv k rfl (r_len (α := Int) hr226 k underlying29 rfl rfl) fun a k => pN 2 k rfl fun a k => bsplit (((x221.length : Int)) == 0) (fun hb243 => ?_) (fun hb243 => ?_))
     · have h := bif_t hb243 h
       refine rB k 31 rfl hb243 fun k => pN 6 k rfl fun a k => nn (wp_cond_true (k.ev rfl) (wr (pN 1 k rfl fun a k => nn (wp_ret (rt_then (rt_block (rt_then (rt_then (rt_block (rt_then ?_))))))))))
       refine fS h k m rfl rfl
     have h := bif_f hb243 h
     refine rB k 31 rfl hb243 fun k => sv k rfl (r_ldB ta40 m 0 hb23 0 k rfl rfl rfl rfl rfl rfl) fun a k => pN 1 k rfl fun a k => sv k rfl (r_ldB ta92 m 1 hb38 0 k rfl rfl rfl rfl rfl rfl) fun a k => oE h fun x244 hx245 h => cE k m call157 rfl rfl rfl (c_impl_within fu _ _ (x30.1 : Typ) (show rd _ _ [.int .i64 r1.fWay, .int .i64 r1.fPallet.fW, .int .i64 r1.fPallet.fD, .int .i64 r1.fPallet.fH, .int .i64 r1.fPallet.fGram, .int .i64 r1.fClasses, v13, v15, .int .i64 r1.fMaster, v17] (r1 : Request) from ⟨_, _, _, _, _, _, rfl, rfl, (Enc.rd_agr hf19 (m.a00 (Enc.rd_lt hf19))), (Enc.rd_agr hf20 (m.a00 (Enc.rd_lt hf20))), (Enc.rd_agr hf21 (m.a00 (Enc.rd_lt hf21)))⟩) (Enc.rd_agr hr226 (m.a00 (Enc.rd_lt hr226))) hx245) fun w247 e a k m => pN 2 k rfl fun a k => nn (cI h k rfl (fun hb248 h => ?_) fun hb248 h => ?_)
     · refine wr (pN 1 k rfl fun a k => nn (wp_ret (rt_then (rt_block (rt_then (rt_then (rt_block (rt_then ?_))))))))
       refine fS h k m rfl rfl
     refine wp_skip (nm_then ?_)
     exact ⟨k.keep [1, 3, 7, 9, 11, 22, 23, 24] rfl, m.sel [0, 1, 2] rfl (by decide), h⟩
   refine wp_exit (ex_then (ex_then (ex_same (nm_then ?_))))
   refine wr (sv k rfl (r_ldB ta40 m 0 hb23 0 k rfl rfl rfl rfl rfl rfl) fun a k => pN 1 k rfl fun a k => oE h fun x249 hx250 h => s_call k call163 rfl rfl rfl rfl rfl (c_impl_thereOf fu _ _ (show rd _ _ [.int .i64 r1.fWay, .int .i64 r1.fPallet.fW, .int .i64 r1.fPallet.fD, .int .i64 r1.fPallet.fH, .int .i64 r1.fPallet.fGram, .int .i64 r1.fClasses, v13, v15, .int .i64 r1.fMaster, v17] (r1 : Request) from ⟨_, _, _, _, _, _, rfl, rfl, (Enc.rd_agr hf19 (m.a00 (Enc.rd_lt hf19))), (Enc.rd_agr hf20 (m.a00 (Enc.rd_lt hf20))), (Enc.rd_agr hf21 (m.a00 (Enc.rd_lt hf21)))⟩) (Enc.rd_agr hp8 (m.a00 (Enc.rd_lt hp8))) hx250) fun e251 w252 hR => ?_)
   obtain ⟨v257, F253, rfl, e, hf254, hfr255⟩ := hR
   refine ⟨_, rfl, fun a k => ?_⟩
   have m := m.new e F253 (fun b hb => ⟨hfr255 b hb, Enc.rd_lt (Enc.ow_rd hf254) b hb⟩) (Enc.ow_nd hf254)
   refine pN 1 k rfl fun a k => nn (wr (pN 1 k rfl fun a k => oE h fun x258 hx259 h => s_call k call164 rfl rfl rfl rfl rfl (c_slices_Sort_int_int fu _ (Enc.ow_agr hf183 (m.a 3 rfl)) hx259) fun e260 w261 hR => ?_))
   obtain ⟨F264, rfl, e, hlo263, hf262⟩ := hR
   refine ⟨_, rfl, fun a k => ?_⟩
   have m := m.mut 3 rfl e _ (fun b hb => ⟨hlo263 b hb, Enc.rd_lt (Enc.ow_rd hf262) b hb⟩) (Enc.ow_nd hf262)
   refine nn (wr (pN 1 k rfl fun a k => oE h fun x265 hx266 h => s_call k call164 rfl rfl rfl rfl rfl (c_slices_Sort_int_int fu _ (Enc.ow_agr hf254 (m.a 0 rfl)) hx266) fun e267 w268 hR => ?_))
   obtain ⟨F271, rfl, e, hlo270, hf269⟩ := hR
   refine ⟨_, rfl, fun a k => ?_⟩
   have m := m.mut 0 rfl e _ (fun b hb => ⟨hlo270 b hb, Enc.rd_lt (Enc.ow_rd hf269) b hb⟩) (Enc.ow_nd hf269)
   refine nn (wr (pN 2 k rfl fun a k => oE h fun x272 hx273 h => cE k m call165 rfl rfl rfl (c_slices_Equal_int_int fu _ _ (Enc.rd_agr (Enc.ow_rd hf262) (m.a 3 rfl)) (Enc.rd_agr (Enc.ow_rd hf269) (m.a 0 rfl)) hx273) fun w275 e a k m => pN 1 k rfl fun a k => nn (wp_ret (fS h k m rfl rfl))))
 exact ⟨([] : List Int), (.slice (some ⟨g39, 0, none⟩) 0 0), [g39], w40, 0, k.keep [1, 3, 7, 9, 22, 23, 24] rfl, m.sel [2, 1, 0] rfl (by decide), hf43, h⟩
theorem c_impl_mutual (fu : Nat) {w0 : World} (pairs1 : List Pair) (a5 : Int) (b6 : Int) {v2 : Value} {F3 : List Nat} (hp4 : rd w0 F3 [v2] pairs1) {r : Bool}
    (h : d_impl_mutual fu pairs1 a5 b6 = some r) :
    Calls Tryz.prog 161 #[v2, .int .i64 a5, .int .i64 b6] w0 fun e w => e = .returned (.bool (r)) ∧ Ext [] w0 w := by
 refine enter (vs := [_, _, _]) func161 rfl ntmps161 rfl fun a k => ?_
 have m := St.start w0
 unfold d_impl_mutual at h
 refine wr (pN 1 k rfl fun a k => nn (wr (pN 3 k rfl fun a k => oE h fun x7 hx8 h => cE k m call192 rfl rfl rfl (c_impl_Beside fu _ _ _ (Enc.rd_agr hp4 (m.a00 (Enc.rd_lt hp4))) hx8) fun w10 e a k m => pN 1 k rfl fun a k => bsplit (x7) (fun hb11 => ?_) (fun hb11 => ?_))))
 · have h := bif_t hb11 h
   refine rB k 11 rfl hb11 fun k => pN 3 k rfl fun a k => oE h fun x12 hx13 h => cE k m call192 rfl rfl rfl (c_impl_Beside fu _ _ _ (Enc.rd_agr hp4 (m.a00 (Enc.rd_lt hp4))) hx13) fun w15 e a k m => pN 2 k rfl fun a k => nn (wp_ret (fS h k m rfl rfl))
 have h := bif_f hb11 h
 refine rB k 11 rfl hb11 fun k => pN 6 k rfl fun a k => nn (wp_ret (fS h k m rfl rfl))
theorem c_impl_mayLie_1_1 (fu : Nat) {w0 : World} (y1 : Item) (x2 : Request) (x14 : Item) {v5 : Value} {F6 : List Nat} {v8 : Value} {F9 : List Nat} {v11 : Value} {F12 : List Nat} {b3 : Nat} (hp4 : bx w0 b3 [.int .i64 x2.fWay, .int .i64 x2.fPallet.fW, .int .i64 x2.fPallet.fD, .int .i64 x2.fPallet.fH, .int .i64 x2.fPallet.fGram, .int .i64 x2.fClasses, v5, v8, .int .i64 x2.fMaster, v11] 40) (hp7 : rd w0 F6 [v5] x2.fPairs) (hp10 : rd w0 F9 [v8] x2.fTypes) (hp13 : rd w0 F12 [v11] x2.fItems) {b15 : Nat} (hp16 : bx w0 b15 [.int .i64 x14.fId, .int .i64 x14.fW, .int .i64 x14.fH, .int .i64 x14.fD, .int .i64 x14.fGram, .int .i64 x14.fClass, .int .i64 x14.fCount] 120) {r : Bool}
    (h : d_impl_mayLie_1_1 fu y1 x2 x14 = some r) :
    Calls Tryz.prog 160 #[.agg (Flat.e (y1)).toArray, .pointer (some (⟨b3, 0, none⟩ : Addr)), .pointer (some (⟨b15, 0, none⟩ : Addr))] w0 fun e w => e = .returned (.bool (r)) ∧ Ext [] w0 w := by
 refine enter (vs := [_, _, _]) func160 rfl ntmps160 rfl fun a k => ?_
 have m := St.start w0
 unfold d_impl_mayLie_1_1 at h
 refine wr (s_box (cs := [.int .i64 y1.fId, .int .i64 y1.fW, .int .i64 y1.fH, .int .i64 y1.fD, .int .i64 y1.fGram, .int .i64 y1.fClass, .int .i64 y1.fCount]) m k rfl rfl rfl rfl rfl rfl fun b17 w19 a k m e hb18 => pN 1 k rfl fun a k => nn (wr (sv k rfl (r_fa fa40_3 k rfl rfl) fun a k => sv k rfl (r_ld1 t136 (r := []) (hp4.at (m.a00 hp4.lt1) 6 1 rfl rfl rfl) k rfl rfl) fun a k => sv k rfl (r_fa fa120_5 k rfl rfl) fun a k => sv k rfl (r_ld1 t13 (r := []) (hp16.at (m.a00 hp16.lt1) 5 1 rfl rfl rfl) k rfl rfl) fun a k => sv k rfl (r_fa fa120_5 k rfl rfl) fun a k => sv k rfl (r_ldb t13 m 0 hb18 5 k rfl rfl rfl rfl rfl) fun a k => oE h fun x20 hx21 h => cE k m call161 rfl rfl rfl (c_impl_mutual fu _ _ _ (Enc.rd_agr hp7 (m.a00 (Enc.rd_lt hp7))) hx21) fun w23 e a k m => pN 2 k rfl fun a k => nn (wp_ret (fS h k m rfl rfl)))))
theorem c_impl_mayLie_1 (fu : Nat) {w0 : World} (x1 : Item) (x2 : List Item) (x8 : Request) {v5 : Value} {F6 : List Nat} {b3 : Nat} (hp4 : bx w0 b3 [v5] 38) (hp7 : rd w0 F6 [v5] x2) {v11 : Value} {F12 : List Nat} {v14 : Value} {F15 : List Nat} {v17 : Value} {F18 : List Nat} {b9 : Nat} (hp10 : bx w0 b9 [.int .i64 x8.fWay, .int .i64 x8.fPallet.fW, .int .i64 x8.fPallet.fD, .int .i64 x8.fPallet.fH, .int .i64 x8.fPallet.fGram, .int .i64 x8.fClasses, v11, v14, .int .i64 x8.fMaster, v17] 40) (hp13 : rd w0 F12 [v11] x8.fPairs) (hp16 : rd w0 F15 [v14] x8.fTypes) (hp19 : rd w0 F18 [v17] x8.fItems) {r : Bool}
    (h : d_impl_mayLie_1 fu x1 x2 x8 = some r) :
    Calls Tryz.prog 159 #[.agg (Flat.e (x1)).toArray, .pointer (some (⟨b3, 0, none⟩ : Addr)), .pointer (some (⟨b9, 0, none⟩ : Addr))] w0 fun e w => e = .returned (.bool (r)) ∧ Ext [] w0 w := by
 refine enter (vs := [_, _, _]) func159 rfl ntmps159 rfl fun a k => ?_
 have m := St.start w0
 unfold d_impl_mayLie_1 at h
 refine wr (s_box (cs := [.int .i64 x1.fId, .int .i64 x1.fW, .int .i64 x1.fH, .int .i64 x1.fD, .int .i64 x1.fGram, .int .i64 x1.fClass, .int .i64 x1.fCount]) m k rfl rfl rfl rfl rfl rfl fun b20 w22 a k m e hb21 => pN 1 k rfl fun a k => nn (wr (sv k rfl (r_ld1 t138 (r := []) (hp4.at (m.a00 hp4.lt1) 0 1 rfl rfl rfl) k rfl rfl) fun a k => pN 1 k rfl fun a k => oE h fun x26 hx27 h => ?_)))
 refine cE k m call151 rfl rfl rfl (c_slices_ContainsFunc_impl_Item_impl_Item fu _ _ (Enc.rd_agr hp7 (m.a00 (Enc.rd_lt hp7))) ⟨160, [.pointer (some (⟨b9, 0, none⟩ : Addr)), .pointer (some (⟨b20, 0, none⟩ : Addr))], rfl, call160, fun w y23 v24 r e hv25 hx => by subst hv25; have m := m.step e; exact c_impl_mayLie_1_1 fu _ _ _ (hp10.agr (m.a00 hp10.lt1) (by simp)) (Enc.rd_agr hp13 (m.a00 (Enc.rd_lt hp13))) (Enc.rd_agr hp16 (m.a00 (Enc.rd_lt hp16))) (Enc.rd_agr hp19 (m.a00 (Enc.rd_lt hp19))) (hb21.agr (m.a 0 rfl) (by simp)) hx⟩ hx27) fun w29 e a k m => pN 1 k rfl fun a k => nn (wp_ret (fS h k m rfl rfl))
theorem c_impl_mayLie (fu : Nat) {w0 : World} (r1 : Request) (content5 : List Int) (u9 : Int) {cs2 : List Value} {F3 : List Nat} (hp4 : rd w0 F3 cs2 r1) {v6 : Value} {F7 : List Nat} (hp8 : rd w0 F7 [v6] content5) {r : Bool}
    (h : d_impl_mayLie fu r1 content5 u9 = some r) :
    Calls Tryz.prog 110 #[.agg cs2.toArray, v6, .int .i64 u9] w0 fun e w => e = .returned (.bool (r)) ∧ Ext [] w0 w := by
 refine enter (vs := [_, _, _]) func110 rfl ntmps110 rfl fun a k => ?_
 have m := St.start w0
 obtain ⟨v10, F11, v12, F13, v14, F15, rfl, rfl, hf16, hf17, hf18⟩ := hp4
 unfold d_impl_mayLie at h
 refine wr (s_box (cs := [.int .i64 r1.fWay, .int .i64 r1.fPallet.fW, .int .i64 r1.fPallet.fD, .int .i64 r1.fPallet.fH, .int .i64 r1.fPallet.fGram, .int .i64 r1.fClasses, v10, v12, .int .i64 r1.fMaster, v14]) m k rfl rfl rfl rfl rfl rfl fun b19 w21 a k m e hb20 => pN 1 k rfl fun a k => nn (wr (sv k rfl (r_ldB ta40 m 0 hb20 0 k rfl rfl rfl rfl rfl rfl) fun a k => pN 1 k rfl fun a k => s_bs (cs := [.int .i64 u9]) (ps := [(0, .tmp 9)]) te29 m k rfl rfl rfl rfl rfl rfl rfl (by decide) rfl (by exact (List.forall_mem_cons.2 ⟨rfl, (List.forall_mem_nil _)⟩)) fun g22 w23 e25 a k m e hb24 => ?_)))
 have hf26 := ow_bx hb24 ([u9] : List Int) rfl rfl rfl
 refine oE h fun x27 hx28 h => s_call k call143 rfl rfl rfl rfl rfl (c_impl_itemsOf fu _ _ (show rd _ _ [.int .i64 r1.fWay, .int .i64 r1.fPallet.fW, .int .i64 r1.fPallet.fD, .int .i64 r1.fPallet.fH, .int .i64 r1.fPallet.fGram, .int .i64 r1.fClasses, v10, v12, .int .i64 r1.fMaster, v14] (r1 : Request) from ⟨_, _, _, _, _, _, rfl, rfl, (Enc.rd_agr hf16 (m.a00 (Enc.rd_lt hf16))), (Enc.rd_agr hf17 (m.a00 (Enc.rd_lt hf17))), (Enc.rd_agr hf18 (m.a00 (Enc.rd_lt hf18)))⟩) (Enc.rd_agr (Enc.ow_rd hf26) (m.a 0 rfl)) hx28) fun e29 w30 hR => ?_
 obtain ⟨v35, F31, rfl, e, hf32, hfr33⟩ := hR
 refine ⟨_, rfl, fun a k => ?_⟩
 have m := m.new e F31 (fun b hb => ⟨hfr33 b hb, Enc.rd_lt (Enc.ow_rd hf32) b hb⟩) (Enc.ow_nd hf32)
 refine s_alloc (cs := [.slice none 0 0]) m k zeroValue38 rfl rfl rfl rfl rfl fun b36 w38 a k m e hb37 => s_stb1 (cs' := [v35]) sizeOf38 m 0 hb37 0 k (rd_c (Enc.ow_rd hf32)) (rd_o (Enc.ow_rd hf32)) rfl rfl rfl rfl rfl rfl rfl rfl rfl fun w39 a k e m hb40 => nn (wr (sv k rfl (r_ldB ta40 m 3 hb20 0 k rfl rfl rfl rfl rfl rfl) fun a k => pN 1 k rfl fun a k => oE h fun x41 hx42 h => ?_))
 refine s_call k call143 rfl rfl rfl rfl rfl (c_impl_itemsOf fu _ _ (show rd _ _ [.int .i64 r1.fWay, .int .i64 r1.fPallet.fW, .int .i64 r1.fPallet.fD, .int .i64 r1.fPallet.fH, .int .i64 r1.fPallet.fGram, .int .i64 r1.fClasses, v10, v12, .int .i64 r1.fMaster, v14] (r1 : Request) from ⟨_, _, _, _, _, _, rfl, rfl, (Enc.rd_agr hf16 (m.a00 (Enc.rd_lt hf16))), (Enc.rd_agr hf17 (m.a00 (Enc.rd_lt hf17))), (Enc.rd_agr hf18 (m.a00 (Enc.rd_lt hf18)))⟩) (Enc.rd_agr hp8 (m.a00 (Enc.rd_lt hp8))) hx42) fun e43 w44 hR => ?_
 obtain ⟨v49, F45, rfl, e, hf46, hfr47⟩ := hR
 refine ⟨_, rfl, fun a k => ?_⟩
 have m := m.new e F45 (fun b hb => ⟨hfr47 b hb, Enc.rd_lt (Enc.ow_rd hf46) b hb⟩) (Enc.ow_nd hf46)
 refine pN 1 k rfl fun a k => oE h fun x53 hx54 h => cE k m call151 rfl rfl rfl (c_slices_ContainsFunc_impl_Item_impl_Item fu _ _ (Enc.rd_agr (Enc.ow_rd hf46) (m.a 0 rfl)) ⟨159, [.pointer (some (⟨b36, 0, none⟩ : Addr)), .pointer (some (⟨b19, 0, none⟩ : Addr))], rfl, call159, fun w y50 v51 r e hv52 hx => by subst hv52; have m := m.step e; exact c_impl_mayLie_1 fu _ _ _ (hb40.agr (m.a 1 rfl) (by simp)) (Enc.rd_agr (Enc.ow_rd hf32) (m.a 2 rfl)) (hb20.agr (m.a 4 rfl) (by simp)) (Enc.rd_agr hf16 (m.a00 (Enc.rd_lt hf16))) (Enc.rd_agr hf17 (m.a00 (Enc.rd_lt hf17))) (Enc.rd_agr hf18 (m.a00 (Enc.rd_lt hf18))) hx⟩ hx54) fun w56 e a k m => pN 2 k rfl fun a k => nn (wp_ret (fS h k m rfl rfl))
theorem c_impl_IsRival_1_1 (fu : Nat) {w0 : World} (u1 : Int) (x2 : Request) (x14 : List Int) {v5 : Value} {F6 : List Nat} {v8 : Value} {F9 : List Nat} {v11 : Value} {F12 : List Nat} {b3 : Nat} (hp4 : bx w0 b3 [.int .i64 x2.fWay, .int .i64 x2.fPallet.fW, .int .i64 x2.fPallet.fD, .int .i64 x2.fPallet.fH, .int .i64 x2.fPallet.fGram, .int .i64 x2.fClasses, v5, v8, .int .i64 x2.fMaster, v11] 40) (hp7 : rd w0 F6 [v5] x2.fPairs) (hp10 : rd w0 F9 [v8] x2.fTypes) (hp13 : rd w0 F12 [v11] x2.fItems) {v17 : Value} {F18 : List Nat} {b15 : Nat} (hp16 : bx w0 b15 [v17] 29) (hp19 : rd w0 F18 [v17] x14) {r : Bool}
    (h : d_impl_IsRival_1_1 fu u1 x2 x14 = some r) :
    Calls Tryz.prog 118 #[.int .i64 u1, .pointer (some (⟨b3, 0, none⟩ : Addr)), .pointer (some (⟨b15, 0, none⟩ : Addr))] w0 fun e w => e = .returned (.bool (r)) ∧ Ext [] w0 w := by
 refine enter (vs := [_, _, _]) func118 rfl ntmps118 rfl fun a k => ?_
 have m := St.start w0
 unfold d_impl_IsRival_1_1 at h
 refine wr (pN 1 k rfl fun a k => nn (wr (sv k rfl (r_ldA ta40 (hp4.at (m.a00 hp4.lt1) 0 10 rfl rfl rfl) rfl k rfl rfl) fun a k => sv k rfl (r_ld1 t129 (r := []) (hp16.at (m.a00 hp16.lt1) 0 1 rfl rfl rfl) k rfl rfl) fun a k => pN 1 k rfl fun a k => oE h fun x20 hx21 h => cE k m call110 rfl rfl rfl (c_impl_mayLie fu _ _ _ (show rd _ _ [.int .i64 x2.fWay, .int .i64 x2.fPallet.fW, .int .i64 x2.fPallet.fD, .int .i64 x2.fPallet.fH, .int .i64 x2.fPallet.fGram, .int .i64 x2.fClasses, v5, v8, .int .i64 x2.fMaster, v11] (x2 : Request) from ⟨_, _, _, _, _, _, rfl, rfl, (Enc.rd_agr hp7 (m.a00 (Enc.rd_lt hp7))), (Enc.rd_agr hp10 (m.a00 (Enc.rd_lt hp10))), (Enc.rd_agr hp13 (m.a00 (Enc.rd_lt hp13)))⟩) (Enc.rd_agr hp19 (m.a00 (Enc.rd_lt hp19))) hx21) fun w23 e a k m => pN 2 k rfl fun a k => nn (wp_ret (fS h k m rfl rfl)))))
theorem c_slices_ContainsFunc_int_int (fu : Nat) {w0 : World} (sv1 : List Int) (f5 : Int → Option Bool) {v2 : Value} {F3 : List Nat} (hp4 : rd w0 F3 [v2] sv1) {v6 : Value} (hp7 : FnOk1 Tryz.prog w0 v6 f5) {r : Bool}
    (h : d_slices_ContainsFunc_int_int fu sv1 f5 = some r) :
    Calls Tryz.prog 117 #[v2, v6] w0 fun e w => e = .returned (.bool (r)) ∧ Ext [] w0 w := by
 refine enter (vs := [_, _]) func117 rfl ntmps117 rfl fun a k => ?_
 have m := St.start w0
 obtain ⟨fid8, cap9, rfl, hcl10, hcc11⟩ := hp7
 unfold d_slices_ContainsFunc_int_int at h
 refine wr (pN 1 k rfl fun a k => nn (wr (pN 2 k rfl fun a k => oE h fun x14 hx15 h => cE k m call166 rfl rfl rfl (c_slices_IndexFunc_int_int fu _ _ (Enc.rd_agr hp4 (m.a00 (Enc.rd_lt hp4))) ⟨_, _, rfl, hcl10, fun w y12 v13 r e => hcc11 w y12 v13 r (m.ext.trans e (by simp))⟩ hx15) fun w17 e a k m => pN 2 k rfl fun a k => nn (wp_ret (fS h k m rfl rfl)))))
theorem c_impl_IsRival_1 (fu : Nat) {w0 : World} (l1 : List Int) (x5 : Request) {v2 : Value} {F3 : List Nat} (hp4 : rd w0 F3 [v2] l1) {v8 : Value} {F9 : List Nat} {v11 : Value} {F12 : List Nat} {v14 : Value} {F15 : List Nat} {b6 : Nat} (hp7 : bx w0 b6 [.int .i64 x5.fWay, .int .i64 x5.fPallet.fW, .int .i64 x5.fPallet.fD, .int .i64 x5.fPallet.fH, .int .i64 x5.fPallet.fGram, .int .i64 x5.fClasses, v8, v11, .int .i64 x5.fMaster, v14] 40) (hp10 : rd w0 F9 [v8] x5.fPairs) (hp13 : rd w0 F12 [v11] x5.fTypes) (hp16 : rd w0 F15 [v14] x5.fItems) {r : Bool}
    (h : d_impl_IsRival_1 fu l1 x5 = some r) :
    Calls Tryz.prog 116 #[v2, .pointer (some (⟨b6, 0, none⟩ : Addr))] w0 fun e w => e = .returned (.bool (r)) ∧ Ext [] w0 w := by
 refine enter (vs := [_, _]) func116 rfl ntmps116 rfl fun a k => ?_
 have m := St.start w0
 unfold d_impl_IsRival_1 at h
 refine wr (s_box (cs := [v2]) m k rfl rfl rfl rfl rfl (rd_c hp4) fun b17 w19 a k m e hb18 => pN 1 k rfl fun a k => nn (wr (sv k rfl (r_ldb t129 m 0 hb18 0 k rfl rfl rfl rfl rfl) fun a k => pN 1 k rfl fun a k => oE h fun x23 hx24 h => cE k m call117 rfl rfl rfl (c_slices_ContainsFunc_int_int fu _ _ (Enc.rd_agr hp4 (m.a00 (Enc.rd_lt hp4))) ⟨118, [.pointer (some (⟨b6, 0, none⟩ : Addr)), .pointer (some (⟨b17, 0, none⟩ : Addr))], rfl, call118, fun w y20 v21 r e hv22 hx => by subst hv22; have m := m.step e; exact c_impl_IsRival_1_1 fu _ _ _ (hp7.agr (m.a00 hp7.lt1) (by simp)) (Enc.rd_agr hp10 (m.a00 (Enc.rd_lt hp10))) (Enc.rd_agr hp13 (m.a00 (Enc.rd_lt hp13))) (Enc.rd_agr hp16 (m.a00 (Enc.rd_lt hp16))) (hb18.agr (m.a 0 rfl) (by simp)) (Enc.rd_agr hp4 (m.a00 (Enc.rd_lt hp4))) hx⟩ hx24) fun w26 e a k m => pN 1 k rfl fun a k => nn (wp_ret ?_))))
 refine fS h k m rfl rfl
theorem c_slices_IndexFunc_ints_int (fu : Nat) {w0 : World} (sv1 : List (List Int)) (f5 : (List Int) → Option Bool) {v2 : Value} {F3 : List Nat} (hp4 : rd w0 F3 [v2] sv1) {v6 : Value} (hp7 : FnOk1 Tryz.prog w0 v6 f5) {r : Int}
    (h : d_slices_IndexFunc_ints_int fu sv1 f5 = some r) :
    Calls Tryz.prog 155 #[v2, v6] w0 fun e w => e = .returned (.int .i64 r) ∧ Ext [] w0 w := by
 refine enter (vs := [_, _]) func155 rfl ntmps155 rfl fun a k => ?_
 have m := St.start w0
 obtain ⟨fid8, cap9, rfl, hcl10, hcc11⟩ := hp7
 unfold d_slices_IndexFunc_ints_int at h
 refine wr (pN 1 k rfl fun a k => nn (wp_seq (wr (pN 1 k rfl fun a k => sv k rfl (r_len (α := List Int) hp4 k underlying47 rfl rfl) fun a k => pN 1 k rfl fun a k => nn (wp_block (c_loop (fun n a w => ∃ (x46 : Int), K 19 [(0, v2), (1, (.func (.func fid8) #[] cap9.toArray)), (7, .int .i64 ((sv1.length : Int))), (8, .int .i64 x46)] a ∧ St [] w0 w [] ∧ d_slices_IndexFunc_ints_int_L1 fu sv1 f5 n x46 = some r) ?_ ?_ fu _ _ ?_))))))
 · rintro a w ⟨_, _, _, h⟩
   exact nS h
 · rintro m47 a w45 ⟨x46, k, m, h⟩
   rw [d_slices_IndexFunc_ints_int_L1_s] at h
   unfold d_slices_IndexFunc_ints_int_L1_B at h
   refine wr (pN 1 k rfl fun a k => nn (wp_seq (cI h k rfl (fun hb48 h => ?_) fun hb48 h => ?_)))
   · refine wp_skip (nm_then ?_)
     refine wp_seq (wp_block (wr (pN 2 k rfl fun a k => nn (wr (pN 3 k rfl fun a k => oE h fun x49 hx50 h => sv k rfl (r_ixa hp4 hx50 k ts47 rfl rfl rfl) fun a k => ?_)))))
     obtain ⟨G51, cs52, hG53, hr54, hp55, hb56⟩ := rd_get hp4 (ix_some hx50).2.2
     obtain ⟨v57, rfl⟩ : ∃ v, cs52 = [v] := by obtain ⟨_, _, hq, _⟩ := hr54; exact ⟨_, hq⟩
     refine sv k rfl (r_ld1 t129 (hp55.agr (m.a00 (Enc.rd_lt hp4)) hb56) k rfl rfl) fun a k => oE h fun x58 hx59 h => s_callv k hcl10 rfl rfl rfl rfl rfl rfl (hcc11 _ _ _ _ m.ext ⟨_, (Enc.rd_agr hr54 (m.a00 (Enc.rd_lt hr54)))⟩ hx59) fun e60 w61 hR => ?_
     obtain ⟨rfl, e⟩ := hR
     refine ⟨_, rfl, fun a k => ?_⟩
     have m := m.step e
     refine nn (cI h k rfl (fun hb62 h => ?_) fun hb62 h => ?_)
     · refine wr (pN 2 k rfl fun a k => nn (wp_ret (rt_block (rt_then (rt_then (rt_block (rt_then ?_)))))))
       refine fS h k m rfl rfl
     refine wp_skip (nm_block (nm_then ?_))
     refine wp_region_lit (pN 2 k rfl fun a k => nn ?_)
     exact ⟨w64 (x46 + 1), k.keep [0, 1, 7, 8] rfl, m.sel [] rfl (by decide), h⟩
   refine wp_exit (ex_then (ex_then (ex_same (nm_then ?_))))
   refine wr (pN 1 k rfl fun a k => nn (wp_ret (fS h k m rfl rfl)))
 exact ⟨0, k.keep [0, 1, 7, 8] rfl, m.sel [] rfl (by decide), h⟩
theorem c_slices_ContainsFunc_ints_int (fu : Nat) {w0 : World} (sv1 : List (List Int)) (f5 : (List Int) → Option Bool) {v2 : Value} {F3 : List Nat} (hp4 : rd w0 F3 [v2] sv1) {v6 : Value} (hp7 : FnOk1 Tryz.prog w0 v6 f5) {r : Bool}
    (h : d_slices_ContainsFunc_ints_int fu sv1 f5 = some r) :
    Calls Tryz.prog 104 #[v2, v6] w0 fun e w => e = .returned (.bool (r)) ∧ Ext [] w0 w := by
 refine enter (vs := [_, _]) func104 rfl ntmps104 rfl fun a k => ?_
 have m := St.start w0
 obtain ⟨fid8, cap9, rfl, hcl10, hcc11⟩ := hp7
 unfold d_slices_ContainsFunc_ints_int at h
 refine wr (pN 1 k rfl fun a k => nn (wr (pN 2 k rfl fun a k => oE h fun x14 hx15 h => cE k m call155 rfl rfl rfl (c_slices_IndexFunc_ints_int fu _ _ (Enc.rd_agr hp4 (m.a00 (Enc.rd_lt hp4))) ⟨_, _, rfl, hcl10, fun w y12 v13 r e => hcc11 w y12 v13 r (m.ext.trans e (by simp))⟩ hx15) fun w17 e a k m => pN 2 k rfl fun a k => nn (wp_ret (fS h k m rfl rfl)))))
theorem c_impl_IsRival (fu : Nat) {w0 : World} (r1 : Request) (cartons5 : List (List Int)) {cs2 : List Value} {F3 : List Nat} (hp4 : rd w0 F3 cs2 r1) {v6 : Value} {F7 : List Nat} (hp8 : rd w0 F7 [v6] cartons5) {r : Bool}
    (h : d_impl_IsRival fu r1 cartons5 = some r) :
    Calls Tryz.prog 52 #[.agg cs2.toArray, v6] w0 fun e w => e = .returned (.bool (r)) ∧ Ext [] w0 w := by
 refine enter (vs := [_, _]) func52 rfl ntmps52 rfl fun a k => ?_
 have m := St.start w0
 obtain ⟨v9, F10, v11, F12, v13, F14, rfl, rfl, hf15, hf16, hf17⟩ := hp4
 unfold d_impl_IsRival at h
 refine wr (s_box (cs := [.int .i64 r1.fWay, .int .i64 r1.fPallet.fW, .int .i64 r1.fPallet.fD, .int .i64 r1.fPallet.fH, .int .i64 r1.fPallet.fGram, .int .i64 r1.fClasses, v9, v11, .int .i64 r1.fMaster, v13]) m k rfl rfl rfl rfl rfl rfl fun b18 w20 a k m e hb19 => pN 1 k rfl fun a k => nn (wp_seq (wp_seq (d_go [] mixo m rfl fun w21 hMd => ?_))))
 have m := hMd
 have s := Ext.refl ([] : List Nat) w21
 refine dt k 0 rfl (by kernel_rfl) rfl s (fun _ _ _ => id) (fun w s => r_ldA ta40 (hb19.at ((hMd.step s).a 0 rfl) 0 10 rfl rfl rfl) rfl k rfl rfl) fun a k => dt k 1 rfl (by kernel_rfl) rfl s (fun _ _ _ => id) (fun w s => r_ldA ta40 (hb19.at ((hMd.step s).a 0 rfl) 0 10 rfl rfl rfl) rfl k rfl rfl) fun a k => dp k 5 rfl (by kernel_rfl) rfl s (fun _ _ _ => id) rfl fun a k => d_one 2 (by kernel_rfl) rfl (oE h fun x22 hx23 h => ?_)
 refine s_call k call84 rfl rfl rfl rfl rfl (c_impl_Units fu _ (show rd _ _ [.int .i64 r1.fWay, .int .i64 r1.fPallet.fW, .int .i64 r1.fPallet.fD, .int .i64 r1.fPallet.fH, .int .i64 r1.fPallet.fGram, .int .i64 r1.fClasses, v9, v11, .int .i64 r1.fMaster, v13] (r1 : Request) from ⟨_, _, _, _, _, _, rfl, rfl, (Enc.rd_agr hf15 (m.a00 (Enc.rd_lt hf15))), (Enc.rd_agr hf16 (m.a00 (Enc.rd_lt hf16))), (Enc.rd_agr hf17 (m.a00 (Enc.rd_lt hf17)))⟩) hx23) fun e24 w25 hR => ?_
 obtain ⟨v30, F26, rfl, e, hf27, hfr28⟩ := hR
 refine ⟨_, rfl, fun a k => ?_⟩
 have m := m.new e F26 (fun b hb => ⟨hfr28 b hb, Enc.rd_lt (Enc.ow_rd hf27) b hb⟩) (Enc.ow_nd hf27)
 have hlo31 := fun (y : Nat) (hy : y ∈ F26) => Nat.le_trans s.size (hfr28 y hy)
 have s := s.trans e (by simp)
 refine wpList_nil ⟨s, ?_⟩
 refine dt k 3 rfl (by kernel_rfl) rfl s (fun _ _ _ => id) (fun w s => r_len (α := Int) (Enc.ow_rd hf27) k underlying29 rfl rfl) fun a k => d_one 4 (by kernel_rfl) rfl (oE h fun x32 hx33 h => s_call k call115 rfl rfl rfl rfl rfl (c_impl_places fu _  hx33) fun e34 w35 hR => ?_)
 obtain ⟨v40, F36, rfl, e, hf37, hfr38⟩ := hR
 refine ⟨_, rfl, fun a k => ?_⟩
 have m := m.new e F36 (fun b hb => ⟨hfr38 b hb, Enc.rd_lt (Enc.ow_rd hf37) b hb⟩) (Enc.ow_nd hf37)
 have hlo41 := fun (y : Nat) (hy : y ∈ F36) => Nat.le_trans s.size (hfr38 y hy)
 have s := s.trans e (by simp)
 refine wpList_nil ⟨s, ?_⟩
 refine d_one 6 (by kernel_rfl) rfl (oE h fun x42 hx43 h => cE k m call114 rfl rfl rfl (c_impl_IsPacking fu _ _ _ (show rd _ _ [.int .i64 r1.fWay, .int .i64 r1.fPallet.fW, .int .i64 r1.fPallet.fD, .int .i64 r1.fPallet.fH, .int .i64 r1.fPallet.fGram, .int .i64 r1.fClasses, v9, v11, .int .i64 r1.fMaster, v13] (r1 : Request) from ⟨_, _, _, _, _, _, rfl, rfl, (Enc.rd_agr hf15 (m.a00 (Enc.rd_lt hf15))), (Enc.rd_agr hf16 (m.a00 (Enc.rd_lt hf16))), (Enc.rd_agr hf17 (m.a00 (Enc.rd_lt hf17)))⟩) (Enc.rd_agr (Enc.ow_rd hf37) (m.a 0 rfl)) (Enc.rd_agr hp8 (m.a00 (Enc.rd_lt hp8))) hx43) fun w45 e a k m => ?_)
 have s := s.trans e (by simp)
 refine wpList_nil ⟨s, ?_⟩
 refine dp k 7 rfl (by kernel_rfl) rfl s (fun _ _ _ => id) rfl fun a k => d_done (by kernel_rfl) ((nm_then ?_))
 refine cI h k rfl (fun hb46 h => ?_) fun hb46 h => ?_
 · refine wr (pN 1 k rfl fun a k => nn (wp_ret (rt_then ?_)))
   refine fS h k m rfl rfl
 refine wp_skip (nm_then ?_)
 refine wr (pN 2 k rfl fun a k => oE h fun x50 hx51 h => cE k m call104 rfl rfl rfl (c_slices_ContainsFunc_ints_int fu _ _ (Enc.rd_agr hp8 (m.a00 (Enc.rd_lt hp8))) ⟨116, [.pointer (some (⟨b18, 0, none⟩ : Addr))], rfl, call116, fun w y47 v48 r e hv49 hx => by obtain ⟨_, hv49⟩ := hv49; have m := m.step e; exact c_impl_IsRival_1 fu _ _ hv49 (hb19.agr (m.a 2 rfl) (by simp)) (Enc.rd_agr hf15 (m.a00 (Enc.rd_lt hf15))) (Enc.rd_agr hf16 (m.a00 (Enc.rd_lt hf16))) (Enc.rd_agr hf17 (m.a00 (Enc.rd_lt hf17))) hx⟩ hx51) fun w53 e a k m => pN 2 k rfl fun a k => nn (wp_ret (fS h k m rfl rfl)))
theorem c_laws_eqPallet (fu : Nat) {w0 : World} (a1 : Pallet) (b2 : Pallet)  {r : Bool}
    (h : d_laws_eqPallet fu a1 b2 = some r) :
    Calls Tryz.prog 79 #[.agg (Flat.e (a1)).toArray, .agg (Flat.e (b2)).toArray] w0 fun e w => e = .returned (.bool (r)) ∧ Ext [] w0 w := by
 refine enter (vs := [_, _]) func79 rfl ntmps79 rfl fun a k => ?_
 have m := St.start w0
 unfold d_laws_eqPallet at h
 refine wr (s_box (cs := [.int .i64 a1.fW, .int .i64 a1.fD, .int .i64 a1.fH, .int .i64 a1.fGram]) m k rfl rfl rfl rfl rfl rfl fun b3 w5 a k m e hb4 => s_box (cs := [.int .i64 b2.fW, .int .i64 b2.fD, .int .i64 b2.fH, .int .i64 b2.fGram]) m k rfl rfl rfl rfl rfl rfl fun b6 w8 a k m e hb7 => pN 1 k rfl fun a k => nn (wp_seq (wr (sv k rfl (r_fa fa35_0 k rfl rfl) fun a k => sv k rfl (r_ldb t13 m 1 hb4 0 k rfl rfl rfl rfl rfl) fun a k => sv k rfl (r_fa fa35_0 k rfl rfl) fun a k => sv k rfl (r_ldb t13 m 0 hb7 0 k rfl rfl rfl rfl rfl) fun a k => pN 1 k rfl fun a k => nn (cI h k rfl (fun hb9 h => ?_) fun hb9 h => ?_)))))
 · refine wr (pN 1 k rfl fun a k => nn (wp_ret (rt_then ?_)))
   refine fS h k m rfl rfl
 refine wp_skip (nm_then ?_)
 refine wp_seq (wr (sv k rfl (r_fa fa35_1 k rfl rfl) fun a k => sv k rfl (r_ldb t13 m 1 hb4 1 k rfl rfl rfl rfl rfl) fun a k => sv k rfl (r_fa fa35_1 k rfl rfl) fun a k => sv k rfl (r_ldb t13 m 0 hb7 1 k rfl rfl rfl rfl rfl) fun a k => pN 1 k rfl fun a k => nn (cI h k rfl (fun hb10 h => ?_) fun hb10 h => ?_)))
 · refine wr (pN 1 k rfl fun a k => nn (wp_ret (rt_then ?_)))
   refine fS h k m rfl rfl
 refine wp_skip (nm_then ?_)
 refine wp_seq (wr (sv k rfl (r_fa fa35_2 k rfl rfl) fun a k => sv k rfl (r_ldb t13 m 1 hb4 2 k rfl rfl rfl rfl rfl) fun a k => sv k rfl (r_fa fa35_2 k rfl rfl) fun a k => sv k rfl (r_ldb t13 m 0 hb7 2 k rfl rfl rfl rfl rfl) fun a k => pN 1 k rfl fun a k => nn (cI h k rfl (fun hb11 h => ?_) fun hb11 h => ?_)))
 · refine wr (pN 1 k rfl fun a k => nn (wp_ret (rt_then ?_)))
   refine fS h k m rfl rfl
 refine wp_skip (nm_then ?_)
 refine wp_seq (wr (sv k rfl (r_fa fa35_3 k rfl rfl) fun a k => sv k rfl (r_ldb t13 m 1 hb4 3 k rfl rfl rfl rfl rfl) fun a k => sv k rfl (r_fa fa35_3 k rfl rfl) fun a k => sv k rfl (r_ldb t13 m 0 hb7 3 k rfl rfl rfl rfl rfl) fun a k => pN 1 k rfl fun a k => nn (cI h k rfl (fun hb12 h => ?_) fun hb12 h => ?_)))
 · refine wr (pN 1 k rfl fun a k => nn (wp_ret (rt_then ?_)))
   refine fS h k m rfl rfl
 refine wp_skip (nm_then ?_)
 refine wr (pN 1 k rfl fun a k => nn (wp_ret (fS h k m rfl rfl)))
theorem c_laws_eqPair (fu : Nat) {w0 : World} (a1 : Pair) (b2 : Pair)  {r : Bool}
    (h : d_laws_eqPair fu a1 b2 = some r) :
    Calls Tryz.prog 144 #[.agg (Flat.e (a1)).toArray, .agg (Flat.e (b2)).toArray] w0 fun e w => e = .returned (.bool (r)) ∧ Ext [] w0 w := by
 refine enter (vs := [_, _]) func144 rfl ntmps144 rfl fun a k => ?_
 have m := St.start w0
 unfold d_laws_eqPair at h
 refine wr (s_box (cs := [.int .i64 a1.fA, .int .i64 a1.fB]) m k rfl rfl rfl rfl rfl rfl fun b3 w5 a k m e hb4 => s_box (cs := [.int .i64 b2.fA, .int .i64 b2.fB]) m k rfl rfl rfl rfl rfl rfl fun b6 w8 a k m e hb7 => pN 1 k rfl fun a k => nn (wp_seq (wr (sv k rfl (r_fa fa144_0 k rfl rfl) fun a k => sv k rfl (r_ldb t13 m 1 hb4 0 k rfl rfl rfl rfl rfl) fun a k => sv k rfl (r_fa fa144_0 k rfl rfl) fun a k => sv k rfl (r_ldb t13 m 0 hb7 0 k rfl rfl rfl rfl rfl) fun a k => pN 1 k rfl fun a k => nn (cI h k rfl (fun hb9 h => ?_) fun hb9 h => ?_)))))
 · refine wr (pN 1 k rfl fun a k => nn (wp_ret (rt_then ?_)))
   refine fS h k m rfl rfl
 refine wp_skip (nm_then ?_)
 refine wp_seq (wr (sv k rfl (r_fa fa144_1 k rfl rfl) fun a k => sv k rfl (r_ldb t13 m 1 hb4 1 k rfl rfl rfl rfl rfl) fun a k => sv k rfl (r_fa fa144_1 k rfl rfl) fun a k => sv k rfl (r_ldb t13 m 0 hb7 1 k rfl rfl rfl rfl rfl) fun a k => pN 1 k rfl fun a k => nn (cI h k rfl (fun hb10 h => ?_) fun hb10 h => ?_)))
 · refine wr (pN 1 k rfl fun a k => nn (wp_ret (rt_then ?_)))
   refine fS h k m rfl rfl
 refine wp_skip (nm_then ?_)
 refine wr (pN 1 k rfl fun a k => nn (wp_ret (fS h k m rfl rfl)))
theorem c_laws_eqPairS (fu : Nat) {w0 : World} (a1 : List Pair) (b5 : List Pair) {v2 : Value} {F3 : List Nat} (hp4 : rd w0 F3 [v2] a1) {v6 : Value} {F7 : List Nat} (hp8 : rd w0 F7 [v6] b5) {r : Bool}
    (h : d_laws_eqPairS fu a1 b5 = some r) :
    Calls Tryz.prog 80 #[v2, v6] w0 fun e w => e = .returned (.bool (r)) ∧ Ext [] w0 w := by
 refine enter (vs := [_, _]) func80 rfl ntmps80 rfl fun a k => ?_
 have m := St.start w0
 unfold d_laws_eqPairS at h
 refine wr (pN 1 k rfl fun a k => nn (wp_seq (wr (pN 1 k rfl fun a k => sv k rfl (r_len (α := Pair) hp4 k underlying36 rfl rfl) fun a k => pN 1 k rfl fun a k => sv k rfl (r_len (α := Pair) hp8 k underlying36 rfl rfl) fun a k => pN 1 k rfl fun a k => nn (cI h k rfl (fun hb9 h => ?_) fun hb9 h => ?_)))))
 · refine wr (pN 1 k rfl fun a k => nn (wp_ret (rt_then ?_)))
   refine fS h k m rfl rfl
 refine wp_skip (nm_then ?_)
 refine wp_seq (wr (pN 1 k rfl fun a k => nn (wp_block (c_loop (fun n a w => ∃ (i36 : Int), K 27 [(0, v2), (1, v6), (5, .int .i64 i36)] a ∧ St [] w0 w [] ∧ d_laws_eqPairS_L1 fu a1 b5 n i36 = some r) ?_ ?_ fu _ _ ?_))))
 · rintro a w ⟨_, _, _, h⟩
   exact nS h
 · rintro m37 a w35 ⟨i36, k, m, h⟩
   rw [d_laws_eqPairS_L1_s] at h
   unfold d_laws_eqPairS_L1_B at h
   refine wp_seq (wr (pN 2 k rfl fun a k => sv k rfl (r_len (α := Pair) hp4 k underlying36 rfl rfl) fun a k => pN 1 k rfl fun a k => nn (cI h k rfl (fun hb38 h => ?_) fun hb38 h => ?_)))
   · refine wp_skip (nm_then ?_)
     refine wp_seq (wp_block (wp_seq (d_go [] mixo m rfl fun w39 hMd => ?_)))
     have m := hMd
     have s := Ext.refl ([] : List Nat) w39
     refine dp k 0 rfl (by kernel_rfl) rfl s (fun _ _ _ => id) rfl fun a k => dp k 1 rfl (by kernel_rfl) rfl s (fun _ _ _ => id) rfl fun a k => oE h fun x40 hx41 h => dt k 2 rfl (by kernel_rfl) rfl s (fun _ _ _ => id) (fun w s => r_ixa hp4 hx41 k ts36 rfl rfl rfl) fun a k => dt k 3 rfl (by kernel_rfl) rfl s (fun _ _ _ => id) (fun w s => r_lde hp4 ((hMd.step s).a00 (Enc.rd_lt hp4)) hx41 ta144 k rfl rfl) fun a k => dp k 4 rfl (by kernel_rfl) rfl s (fun _ _ _ => id) rfl fun a k => dp k 5 rfl (by kernel_rfl) rfl s (fun _ _ _ => id) rfl fun a k => oE h fun x42 hx43 h => dt k 6 rfl (by kernel_rfl) rfl s (fun _ _ _ => id) (fun w s => r_ixa hp8 hx43 k ts36 rfl rfl rfl) fun a k => dt k 7 rfl (by kernel_rfl) rfl s (fun _ _ _ => id) (fun w s => r_lde hp8 ((hMd.step s).a00 (Enc.rd_lt hp8)) hx43 ta144 k rfl rfl) fun a k => d_one 8 (by kernel_rfl) rfl ?_
     refine oE h fun x44 hx45 h => cE k m call144 rfl rfl rfl (c_laws_eqPair fu (x40 : Pair) (x42 : Pair)  hx45) fun w47 e a k m => ?_
     have s := s.trans e (by simp)
     refine wpList_nil ⟨s, ?_⟩
     refine dp k 9 rfl (by kernel_rfl) rfl s (fun _ _ _ => id) rfl fun a k => d_done (by kernel_rfl) ((nm_then ?_))
     refine cI h k rfl (fun hb48 h => ?_) fun hb48 h => ?_
     · refine wr (pN 1 k rfl fun a k => nn (wp_ret (rt_block (rt_then (rt_then (rt_block (rt_then ?_)))))))
       refine fS h k m rfl rfl
     refine wp_skip (nm_block (nm_then ?_))
     refine wp_region_lit (pN 3 k rfl fun a k => nn ?_)
     exact ⟨w64 (i36 + 1), k.keep [0, 1, 5] rfl, m.sel [] rfl (by decide), h⟩
   refine wp_exit (ex_then (ex_then (ex_same (nm_then ?_))))
   refine wr (pN 1 k rfl fun a k => nn (wp_ret (fS h k m rfl rfl)))
 exact ⟨0, k.keep [0, 1, 5] rfl, m.sel [] rfl (by decide), h⟩
theorem c_laws_eqType (fu : Nat) {w0 : World} (a1 : Typ) (b2 : Typ)  {r : Bool}
    (h : d_laws_eqType fu a1 b2 = some r) :
    Calls Tryz.prog 145 #[.agg (Flat.e (a1)).toArray, .agg (Flat.e (b2)).toArray] w0 fun e w => e = .returned (.bool (r)) ∧ Ext [] w0 w := by
 refine enter (vs := [_, _]) func145 rfl ntmps145 rfl fun a k => ?_
 have m := St.start w0
 unfold d_laws_eqType at h
 refine wr (s_box (cs := [.int .i64 a1.fId, .int .i64 a1.fW, .int .i64 a1.fH, .int .i64 a1.fD, .int .i64 a1.fTare, .int .i64 a1.fGram, .int .i64 a1.fCost]) m k rfl rfl rfl rfl rfl rfl fun b3 w5 a k m e hb4 => s_box (cs := [.int .i64 b2.fId, .int .i64 b2.fW, .int .i64 b2.fH, .int .i64 b2.fD, .int .i64 b2.fTare, .int .i64 b2.fGram, .int .i64 b2.fCost]) m k rfl rfl rfl rfl rfl rfl fun b6 w8 a k m e hb7 => pN 1 k rfl fun a k => nn (wp_seq (wr (sv k rfl (r_fa fa92_0 k rfl rfl) fun a k => sv k rfl (r_ldb t13 m 1 hb4 0 k rfl rfl rfl rfl rfl) fun a k => sv k rfl (r_fa fa92_0 k rfl rfl) fun a k => sv k rfl (r_ldb t13 m 0 hb7 0 k rfl rfl rfl rfl rfl) fun a k => pN 1 k rfl fun a k => nn (cI h k rfl (fun hb9 h => ?_) fun hb9 h => ?_)))))
 · refine wr (pN 1 k rfl fun a k => nn (wp_ret (rt_then ?_)))
   refine fS h k m rfl rfl
 refine wp_skip (nm_then ?_)
 refine wp_seq (wr (sv k rfl (r_fa fa92_1 k rfl rfl) fun a k => sv k rfl (r_ldb t13 m 1 hb4 1 k rfl rfl rfl rfl rfl) fun a k => sv k rfl (r_fa fa92_1 k rfl rfl) fun a k => sv k rfl (r_ldb t13 m 0 hb7 1 k rfl rfl rfl rfl rfl) fun a k => pN 1 k rfl fun a k => nn (cI h k rfl (fun hb10 h => ?_) fun hb10 h => ?_)))
 · refine wr (pN 1 k rfl fun a k => nn (wp_ret (rt_then ?_)))
   refine fS h k m rfl rfl
 refine wp_skip (nm_then ?_)
 refine wp_seq (wr (sv k rfl (r_fa fa92_2 k rfl rfl) fun a k => sv k rfl (r_ldb t13 m 1 hb4 2 k rfl rfl rfl rfl rfl) fun a k => sv k rfl (r_fa fa92_2 k rfl rfl) fun a k => sv k rfl (r_ldb t13 m 0 hb7 2 k rfl rfl rfl rfl rfl) fun a k => pN 1 k rfl fun a k => nn (cI h k rfl (fun hb11 h => ?_) fun hb11 h => ?_)))
 · refine wr (pN 1 k rfl fun a k => nn (wp_ret (rt_then ?_)))
   refine fS h k m rfl rfl
 refine wp_skip (nm_then ?_)
 refine wp_seq (wr (sv k rfl (r_fa fa92_3 k rfl rfl) fun a k => sv k rfl (r_ldb t13 m 1 hb4 3 k rfl rfl rfl rfl rfl) fun a k => sv k rfl (r_fa fa92_3 k rfl rfl) fun a k => sv k rfl (r_ldb t13 m 0 hb7 3 k rfl rfl rfl rfl rfl) fun a k => pN 1 k rfl fun a k => nn (cI h k rfl (fun hb12 h => ?_) fun hb12 h => ?_)))
 · refine wr (pN 1 k rfl fun a k => nn (wp_ret (rt_then ?_)))
   refine fS h k m rfl rfl
 refine wp_skip (nm_then ?_)
 refine wp_seq (wr (sv k rfl (r_fa fa92_4 k rfl rfl) fun a k => sv k rfl (r_ldb t13 m 1 hb4 4 k rfl rfl rfl rfl rfl) fun a k => sv k rfl (r_fa fa92_4 k rfl rfl) fun a k => sv k rfl (r_ldb t13 m 0 hb7 4 k rfl rfl rfl rfl rfl) fun a k => pN 1 k rfl fun a k => ?_))
 have k := k.keep [2, 3, 29] rfl
 refine nn (cI h k rfl (fun hb13 h => ?_) fun hb13 h => ?_)
 · refine wr (pN 1 k rfl fun a k => nn (wp_ret (rt_then ?_)))
   refine fS h k m rfl rfl
 refine wp_skip (nm_then ?_)
 refine wp_seq (wr (sv k rfl (r_fa fa92_5 k rfl rfl) fun a k => sv k rfl (r_ldb t13 m 1 hb4 5 k rfl rfl rfl rfl rfl) fun a k => sv k rfl (r_fa fa92_5 k rfl rfl) fun a k => sv k rfl (r_ldb t13 m 0 hb7 5 k rfl rfl rfl rfl rfl) fun a k => pN 1 k rfl fun a k => nn (cI h k rfl (fun hb14 h => ?_) fun hb14 h => ?_)))
 · refine wr (pN 1 k rfl fun a k => nn (wp_ret (rt_then ?_)))
   refine fS h k m rfl rfl
 refine wp_skip (nm_then ?_)
 refine wp_seq (wr (sv k rfl (r_fa fa92_6 k rfl rfl) fun a k => sv k rfl (r_ldb t13 m 1 hb4 6 k rfl rfl rfl rfl rfl) fun a k => sv k rfl (r_fa fa92_6 k rfl rfl) fun a k => sv k rfl (r_ldb t13 m 0 hb7 6 k rfl rfl rfl rfl rfl) fun a k => pN 1 k rfl fun a k => nn (cI h k rfl (fun hb15 h => ?_) fun hb15 h => ?_)))
 · refine wr (pN 1 k rfl fun a k => nn (wp_ret (rt_then ?_)))
   refine fS h k m rfl rfl
 refine wp_skip (nm_then ?_)
 refine wr (pN 1 k rfl fun a k => nn (wp_ret (fS h k m rfl rfl)))
theorem c_laws_eqTypeS (fu : Nat) {w0 : World} (a1 : List Typ) (b5 : List Typ) {v2 : Value} {F3 : List Nat} (hp4 : rd w0 F3 [v2] a1) {v6 : Value} {F7 : List Nat} (hp8 : rd w0 F7 [v6] b5) {r : Bool}
    (h : d_laws_eqTypeS fu a1 b5 = some r) :
    Calls Tryz.prog 81 #[v2, v6] w0 fun e w => e = .returned (.bool (r)) ∧ Ext [] w0 w := by
 refine enter (vs := [_, _]) func81 rfl ntmps81 rfl fun a k => ?_
 have m := St.start w0
 unfold d_laws_eqTypeS at h
 refine wr (pN 1 k rfl fun a k => nn (wp_seq (wr (pN 1 k rfl fun a k => sv k rfl (r_len (α := Typ) hp4 k underlying37 rfl rfl) fun a k => pN 1 k rfl fun a k => sv k rfl (r_len (α := Typ) hp8 k underlying37 rfl rfl) fun a k => pN 1 k rfl fun a k => nn (cI h k rfl (fun hb9 h => ?_) fun hb9 h => ?_)))))
 · refine wr (pN 1 k rfl fun a k => nn (wp_ret (rt_then ?_)))
   refine fS h k m rfl rfl
 refine wp_skip (nm_then ?_)
 refine wp_seq (wr (pN 1 k rfl fun a k => nn (wp_block (c_loop (fun n a w => ∃ (i36 : Int), K 27 [(0, v2), (1, v6), (5, .int .i64 i36)] a ∧ St [] w0 w [] ∧ d_laws_eqTypeS_L1 fu a1 b5 n i36 = some r) ?_ ?_ fu _ _ ?_))))
 · rintro a w ⟨_, _, _, h⟩
   exact nS h
 · rintro m37 a w35 ⟨i36, k, m, h⟩
   rw [d_laws_eqTypeS_L1_s] at h
   unfold d_laws_eqTypeS_L1_B at h
   refine wp_seq (wr (pN 2 k rfl fun a k => sv k rfl (r_len (α := Typ) hp4 k underlying37 rfl rfl) fun a k => pN 1 k rfl fun a k => nn (cI h k rfl (fun hb38 h => ?_) fun hb38 h => ?_)))
   · refine wp_skip (nm_then ?_)
     refine wp_seq (wp_block (wp_seq (d_go [] mixo m rfl fun w39 hMd => ?_)))
     have m := hMd
     have s := Ext.refl ([] : List Nat) w39
     refine dp k 0 rfl (by kernel_rfl) rfl s (fun _ _ _ => id) rfl fun a k => dp k 1 rfl (by kernel_rfl) rfl s (fun _ _ _ => id) rfl fun a k => oE h fun x40 hx41 h => dt k 2 rfl (by kernel_rfl) rfl s (fun _ _ _ => id) (fun w s => r_ixa hp4 hx41 k ts37 rfl rfl rfl) fun a k => dt k 3 rfl (by kernel_rfl) rfl s (fun _ _ _ => id) (fun w s => r_lde hp4 ((hMd.step s).a00 (Enc.rd_lt hp4)) hx41 ta92 k rfl rfl) fun a k => dp k 4 rfl (by kernel_rfl) rfl s (fun _ _ _ => id) rfl fun a k => dp k 5 rfl (by kernel_rfl) rfl s (fun _ _ _ => id) rfl fun a k => oE h fun x42 hx43 h => dt k 6 rfl (by kernel_rfl) rfl s (fun _ _ _ => id) (fun w s => r_ixa hp8 hx43 k ts37 rfl rfl rfl) fun a k => dt k 7 rfl (by kernel_rfl) rfl s (fun _ _ _ => id) (fun w s => r_lde hp8 ((hMd.step s).a00 (Enc.rd_lt hp8)) hx43 ta92 k rfl rfl) fun a k => d_one 8 (by kernel_rfl) rfl ?_
     refine oE h fun x44 hx45 h => cE k m call145 rfl rfl rfl (c_laws_eqType fu (x40 : Typ) (x42 : Typ)  hx45) fun w47 e a k m => ?_
     have s := s.trans e (by simp)
     refine wpList_nil ⟨s, ?_⟩
     refine dp k 9 rfl (by kernel_rfl) rfl s (fun _ _ _ => id) rfl fun a k => d_done (by kernel_rfl) ((nm_then ?_))
     refine cI h k rfl (fun hb48 h => ?_) fun hb48 h => ?_
     · refine wr (pN 1 k rfl fun a k => nn (wp_ret (rt_block (rt_then (rt_then (rt_block (rt_then ?_)))))))
       refine fS h k m rfl rfl
     refine wp_skip (nm_block (nm_then ?_))
     refine wp_region_lit (pN 3 k rfl fun a k => nn ?_)
     exact ⟨w64 (i36 + 1), k.keep [0, 1, 5] rfl, m.sel [] rfl (by decide), h⟩
   refine wp_exit (ex_then (ex_then (ex_same (nm_then ?_))))
   refine wr (pN 1 k rfl fun a k => nn (wp_ret (fS h k m rfl rfl)))
 exact ⟨0, k.keep [0, 1, 5] rfl, m.sel [] rfl (by decide), h⟩
theorem c_laws_eqItem (fu : Nat) {w0 : World} (a1 : Item) (b2 : Item)  {r : Bool}
    (h : d_laws_eqItem fu a1 b2 = some r) :
    Calls Tryz.prog 146 #[.agg (Flat.e (a1)).toArray, .agg (Flat.e (b2)).toArray] w0 fun e w => e = .returned (.bool (r)) ∧ Ext [] w0 w := by
 refine enter (vs := [_, _]) func146 rfl ntmps146 rfl fun a k => ?_
 have m := St.start w0
 unfold d_laws_eqItem at h
 refine wr (s_box (cs := [.int .i64 a1.fId, .int .i64 a1.fW, .int .i64 a1.fH, .int .i64 a1.fD, .int .i64 a1.fGram, .int .i64 a1.fClass, .int .i64 a1.fCount]) m k rfl rfl rfl rfl rfl rfl fun b3 w5 a k m e hb4 => s_box (cs := [.int .i64 b2.fId, .int .i64 b2.fW, .int .i64 b2.fH, .int .i64 b2.fD, .int .i64 b2.fGram, .int .i64 b2.fClass, .int .i64 b2.fCount]) m k rfl rfl rfl rfl rfl rfl fun b6 w8 a k m e hb7 => pN 1 k rfl fun a k => nn (wp_seq (wr (sv k rfl (r_fa fa120_0 k rfl rfl) fun a k => sv k rfl (r_ldb t13 m 1 hb4 0 k rfl rfl rfl rfl rfl) fun a k => sv k rfl (r_fa fa120_0 k rfl rfl) fun a k => sv k rfl (r_ldb t13 m 0 hb7 0 k rfl rfl rfl rfl rfl) fun a k => pN 1 k rfl fun a k => nn (cI h k rfl (fun hb9 h => ?_) fun hb9 h => ?_)))))
 · refine wr (pN 1 k rfl fun a k => nn (wp_ret (rt_then ?_)))
   refine fS h k m rfl rfl
 refine wp_skip (nm_then ?_)
 refine wp_seq (wr (sv k rfl (r_fa fa120_1 k rfl rfl) fun a k => sv k rfl (r_ldb t13 m 1 hb4 1 k rfl rfl rfl rfl rfl) fun a k => sv k rfl (r_fa fa120_1 k rfl rfl) fun a k => sv k rfl (r_ldb t13 m 0 hb7 1 k rfl rfl rfl rfl rfl) fun a k => pN 1 k rfl fun a k => nn (cI h k rfl (fun hb10 h => ?_) fun hb10 h => ?_)))
 · refine wr (pN 1 k rfl fun a k => nn (wp_ret (rt_then ?_)))
   refine fS h k m rfl rfl
 refine wp_skip (nm_then ?_)
 refine wp_seq (wr (sv k rfl (r_fa fa120_2 k rfl rfl) fun a k => sv k rfl (r_ldb t13 m 1 hb4 2 k rfl rfl rfl rfl rfl) fun a k => sv k rfl (r_fa fa120_2 k rfl rfl) fun a k => sv k rfl (r_ldb t13 m 0 hb7 2 k rfl rfl rfl rfl rfl) fun a k => pN 1 k rfl fun a k => nn (cI h k rfl (fun hb11 h => ?_) fun hb11 h => ?_)))
 · refine wr (pN 1 k rfl fun a k => nn (wp_ret (rt_then ?_)))
   refine fS h k m rfl rfl
 refine wp_skip (nm_then ?_)
 refine wp_seq (wr (sv k rfl (r_fa fa120_3 k rfl rfl) fun a k => sv k rfl (r_ldb t13 m 1 hb4 3 k rfl rfl rfl rfl rfl) fun a k => sv k rfl (r_fa fa120_3 k rfl rfl) fun a k => sv k rfl (r_ldb t13 m 0 hb7 3 k rfl rfl rfl rfl rfl) fun a k => pN 1 k rfl fun a k => nn (cI h k rfl (fun hb12 h => ?_) fun hb12 h => ?_)))
 · refine wr (pN 1 k rfl fun a k => nn (wp_ret (rt_then ?_)))
   refine fS h k m rfl rfl
 refine wp_skip (nm_then ?_)
 refine wp_seq (wr (sv k rfl (r_fa fa120_4 k rfl rfl) fun a k => sv k rfl (r_ldb t13 m 1 hb4 4 k rfl rfl rfl rfl rfl) fun a k => sv k rfl (r_fa fa120_4 k rfl rfl) fun a k => sv k rfl (r_ldb t13 m 0 hb7 4 k rfl rfl rfl rfl rfl) fun a k => pN 1 k rfl fun a k => ?_))
 have k := k.keep [2, 3, 29] rfl
 refine nn (cI h k rfl (fun hb13 h => ?_) fun hb13 h => ?_)
 · refine wr (pN 1 k rfl fun a k => nn (wp_ret (rt_then ?_)))
   refine fS h k m rfl rfl
 refine wp_skip (nm_then ?_)
 refine wp_seq (wr (sv k rfl (r_fa fa120_5 k rfl rfl) fun a k => sv k rfl (r_ldb t13 m 1 hb4 5 k rfl rfl rfl rfl rfl) fun a k => sv k rfl (r_fa fa120_5 k rfl rfl) fun a k => sv k rfl (r_ldb t13 m 0 hb7 5 k rfl rfl rfl rfl rfl) fun a k => pN 1 k rfl fun a k => nn (cI h k rfl (fun hb14 h => ?_) fun hb14 h => ?_)))
 · refine wr (pN 1 k rfl fun a k => nn (wp_ret (rt_then ?_)))
   refine fS h k m rfl rfl
 refine wp_skip (nm_then ?_)
 refine wp_seq (wr (sv k rfl (r_fa fa120_6 k rfl rfl) fun a k => sv k rfl (r_ldb t13 m 1 hb4 6 k rfl rfl rfl rfl rfl) fun a k => sv k rfl (r_fa fa120_6 k rfl rfl) fun a k => sv k rfl (r_ldb t13 m 0 hb7 6 k rfl rfl rfl rfl rfl) fun a k => pN 1 k rfl fun a k => nn (cI h k rfl (fun hb15 h => ?_) fun hb15 h => ?_)))
 · refine wr (pN 1 k rfl fun a k => nn (wp_ret (rt_then ?_)))
   refine fS h k m rfl rfl
 refine wp_skip (nm_then ?_)
 refine wr (pN 1 k rfl fun a k => nn (wp_ret (fS h k m rfl rfl)))
theorem c_laws_eqItemS (fu : Nat) {w0 : World} (a1 : List Item) (b5 : List Item) {v2 : Value} {F3 : List Nat} (hp4 : rd w0 F3 [v2] a1) {v6 : Value} {F7 : List Nat} (hp8 : rd w0 F7 [v6] b5) {r : Bool}
    (h : d_laws_eqItemS fu a1 b5 = some r) :
    Calls Tryz.prog 82 #[v2, v6] w0 fun e w => e = .returned (.bool (r)) ∧ Ext [] w0 w := by
 refine enter (vs := [_, _]) func82 rfl ntmps82 rfl fun a k => ?_
 have m := St.start w0
 unfold d_laws_eqItemS at h
 refine wr (pN 1 k rfl fun a k => nn (wp_seq (wr (pN 1 k rfl fun a k => sv k rfl (r_len (α := Item) hp4 k underlying38 rfl rfl) fun a k => pN 1 k rfl fun a k => sv k rfl (r_len (α := Item) hp8 k underlying38 rfl rfl) fun a k => pN 1 k rfl fun a k => nn (cI h k rfl (fun hb9 h => ?_) fun hb9 h => ?_)))))
 · refine wr (pN 1 k rfl fun a k => nn (wp_ret (rt_then ?_)))
   refine fS h k m rfl rfl
 refine wp_skip (nm_then ?_)
 refine wp_seq (wr (pN 1 k rfl fun a k => nn (wp_block (c_loop (fun n a w => ∃ (i36 : Int), K 27 [(0, v2), (1, v6), (5, .int .i64 i36)] a ∧ St [] w0 w [] ∧ d_laws_eqItemS_L1 fu a1 b5 n i36 = some r) ?_ ?_ fu _ _ ?_))))
 · rintro a w ⟨_, _, _, h⟩
   exact nS h
 · rintro m37 a w35 ⟨i36, k, m, h⟩
   rw [d_laws_eqItemS_L1_s] at h
   unfold d_laws_eqItemS_L1_B at h
   refine wp_seq (wr (pN 2 k rfl fun a k => sv k rfl (r_len (α := Item) hp4 k underlying38 rfl rfl) fun a k => pN 1 k rfl fun a k => nn (cI h k rfl (fun hb38 h => ?_) fun hb38 h => ?_)))
   · refine wp_skip (nm_then ?_)
     refine wp_seq (wp_block (wp_seq (d_go [] mixo m rfl fun w39 hMd => ?_)))
     have m := hMd
     have s := Ext.refl ([] : List Nat) w39
     refine dp k 0 rfl (by kernel_rfl) rfl s (fun _ _ _ => id) rfl fun a k => dp k 1 rfl (by kernel_rfl) rfl s (fun _ _ _ => id) rfl fun a k => oE h fun x40 hx41 h => dt k 2 rfl (by kernel_rfl) rfl s (fun _ _ _ => id) (fun w s => r_ixa hp4 hx41 k ts38 rfl rfl rfl) fun a k => dt k 3 rfl (by kernel_rfl) rfl s (fun _ _ _ => id) (fun w s => r_lde hp4 ((hMd.step s).a00 (Enc.rd_lt hp4)) hx41 ta120 k rfl rfl) fun a k => dp k 4 rfl (by kernel_rfl) rfl s (fun _ _ _ => id) rfl fun a k => dp k 5 rfl (by kernel_rfl) rfl s (fun _ _ _ => id) rfl fun a k => oE h fun x42 hx43 h => dt k 6 rfl (by kernel_rfl) rfl s (fun _ _ _ => id) (fun w s => r_ixa hp8 hx43 k ts38 rfl rfl rfl) fun a k => dt k 7 rfl (by kernel_rfl) rfl s (fun _ _ _ => id) (fun w s => r_lde hp8 ((hMd.step s).a00 (Enc.rd_lt hp8)) hx43 ta120 k rfl rfl) fun a k => d_one 8 (by kernel_rfl) rfl ?_
     refine oE h fun x44 hx45 h => cE k m call146 rfl rfl rfl (c_laws_eqItem fu (x40 : Item) (x42 : Item)  hx45) fun w47 e a k m => ?_
     have s := s.trans e (by simp)
     refine wpList_nil ⟨s, ?_⟩
     refine dp k 9 rfl (by kernel_rfl) rfl s (fun _ _ _ => id) rfl fun a k => d_done (by kernel_rfl) ((nm_then ?_))
     refine cI h k rfl (fun hb48 h => ?_) fun hb48 h => ?_
     · refine wr (pN 1 k rfl fun a k => nn (wp_ret (rt_block (rt_then (rt_then (rt_block (rt_then ?_)))))))
       refine fS h k m rfl rfl
     refine wp_skip (nm_block (nm_then ?_))
     refine wp_region_lit (pN 3 k rfl fun a k => nn ?_)
     exact ⟨w64 (i36 + 1), k.keep [0, 1, 5] rfl, m.sel [] rfl (by decide), h⟩
   refine wp_exit (ex_then (ex_then (ex_same (nm_then ?_))))
   refine wr (pN 1 k rfl fun a k => nn (wp_ret (fS h k m rfl rfl)))
 exact ⟨0, k.keep [0, 1, 5] rfl, m.sel [] rfl (by decide), h⟩
theorem c_laws_eqRequest (fu : Nat) {w0 : World} (a1 : Request) (b5 : Request) {cs2 : List Value} {F3 : List Nat} (hp4 : rd w0 F3 cs2 a1) {cs6 : List Value} {F7 : List Nat} (hp8 : rd w0 F7 cs6 b5) {r : Bool}
    (h : d_laws_eqRequest fu a1 b5 = some r) :
    Calls Tryz.prog 21 #[.agg cs2.toArray, .agg cs6.toArray] w0 fun e w => e = .returned (.bool (r)) ∧ Ext [] w0 w := by
 refine enter (vs := [_, _]) func21 rfl ntmps21 rfl fun a k => ?_
 have m := St.start w0
 obtain ⟨v9, F10, v11, F12, v13, F14, rfl, rfl, hf15, hf16, hf17⟩ := hp4
 obtain ⟨v18, F19, v20, F21, v22, F23, rfl, rfl, hf24, hf25, hf26⟩ := hp8
 unfold d_laws_eqRequest at h
 refine wr (s_box (cs := [.int .i64 a1.fWay, .int .i64 a1.fPallet.fW, .int .i64 a1.fPallet.fD, .int .i64 a1.fPallet.fH, .int .i64 a1.fPallet.fGram, .int .i64 a1.fClasses, v9, v11, .int .i64 a1.fMaster, v13]) m k rfl rfl rfl rfl rfl rfl fun b27 w29 a k m e hb28 => s_box (cs := [.int .i64 b5.fWay, .int .i64 b5.fPallet.fW, .int .i64 b5.fPallet.fD, .int .i64 b5.fPallet.fH, .int .i64 b5.fPallet.fGram, .int .i64 b5.fClasses, v18, v20, .int .i64 b5.fMaster, v22]) m k rfl rfl rfl rfl rfl rfl fun b30 w32 a k m e hb31 => pN 1 k rfl fun a k => nn (wp_seq (wr (sv k rfl (r_fa fa40_0 k rfl rfl) fun a k => sv k rfl (r_ldb t13 m 1 hb28 0 k rfl rfl rfl rfl rfl) fun a k => sv k rfl (r_fa fa40_0 k rfl rfl) fun a k => sv k rfl (r_ldb t13 m 0 hb31 0 k rfl rfl rfl rfl rfl) fun a k => pN 1 k rfl fun a k => nn ?_))))
 refine cI h k rfl (fun hb33 h => ?_) fun hb33 h => ?_
 · refine wr (pN 1 k rfl fun a k => nn (wp_ret (rt_then ?_)))
   refine fS h k m rfl rfl
 refine wp_skip (nm_then ?_)
 refine wp_seq (wr (sv k rfl (r_fa fa40_1 k rfl rfl) fun a k => sv k rfl (r_ldB ta35 m 1 hb28 1 k rfl rfl rfl rfl rfl rfl) fun a k => sv k rfl (r_fa fa40_1 k rfl rfl) fun a k => sv k rfl (r_ldB ta35 m 0 hb31 1 k rfl rfl rfl rfl rfl rfl) fun a k => oE h fun x34 hx35 h => cE k m call79 rfl rfl rfl (c_laws_eqPallet fu (a1.fPallet : Pallet) (b5.fPallet : Pallet)  hx35) fun w37 e a k m => pN 1 k rfl fun a k => nn (cI h k rfl (fun hb38 h => ?_) fun hb38 h => ?_)))
 · refine wr (pN 1 k rfl fun a k => nn (wp_ret (rt_then ?_)))
   refine fS h k m rfl rfl
 refine wp_skip (nm_then ?_)
 refine wp_seq (wr (sv k rfl (r_fa fa40_2 k rfl rfl) fun a k => sv k rfl (r_ldb t13 m 1 hb28 5 k rfl rfl rfl rfl rfl) fun a k => sv k rfl (r_fa fa40_2 k rfl rfl) fun a k => sv k rfl (r_ldb t13 m 0 hb31 5 k rfl rfl rfl rfl rfl) fun a k => pN 1 k rfl fun a k => nn (cI h k rfl (fun hb39 h => ?_) fun hb39 h => ?_)))
 · refine wr (pN 1 k rfl fun a k => nn (wp_ret (rt_then ?_)))
   refine fS h k m rfl rfl
 refine wp_skip (nm_then ?_)
 refine wp_seq (wr (sv k rfl (r_fa fa40_3 k rfl rfl) fun a k => sv k rfl (r_ldb t136 m 1 hb28 6 k rfl rfl rfl rfl rfl) fun a k => sv k rfl (r_fa fa40_3 k rfl rfl) fun a k => sv k rfl (r_ldb t136 m 0 hb31 6 k rfl rfl rfl rfl rfl) fun a k => oE h fun x40 hx41 h => cE k m call80 rfl rfl rfl (c_laws_eqPairS fu _ _ (Enc.rd_agr hf15 (m.a00 (Enc.rd_lt hf15))) (Enc.rd_agr hf24 (m.a00 (Enc.rd_lt hf24))) hx41) fun w43 e a k m => pN 1 k rfl fun a k => ?_))
 have k := k.keep [2, 3, 26] rfl
 refine nn (cI h k rfl (fun hb44 h => ?_) fun hb44 h => ?_)
 · refine wr (pN 1 k rfl fun a k => nn (wp_ret (rt_then ?_)))
   refine fS h k m rfl rfl
 refine wp_skip (nm_then ?_)
 refine wp_seq (wr (sv k rfl (r_fa fa40_4 k rfl rfl) fun a k => sv k rfl (r_ldb t137 m 1 hb28 7 k rfl rfl rfl rfl rfl) fun a k => sv k rfl (r_fa fa40_4 k rfl rfl) fun a k => sv k rfl (r_ldb t137 m 0 hb31 7 k rfl rfl rfl rfl rfl) fun a k => oE h fun x45 hx46 h => cE k m call81 rfl rfl rfl (c_laws_eqTypeS fu _ _ (Enc.rd_agr hf16 (m.a00 (Enc.rd_lt hf16))) (Enc.rd_agr hf25 (m.a00 (Enc.rd_lt hf25))) hx46) fun w48 e a k m => pN 1 k rfl fun a k => nn (cI h k rfl (fun hb49 h => ?_) fun hb49 h => ?_)))
 · refine wr (pN 1 k rfl fun a k => nn (wp_ret (rt_then ?_)))
   refine fS h k m rfl rfl
 refine wp_skip (nm_then ?_)
 refine wp_seq (wr (sv k rfl (r_fa fa40_5 k rfl rfl) fun a k => sv k rfl (r_ldb t13 m 1 hb28 8 k rfl rfl rfl rfl rfl) fun a k => sv k rfl (r_fa fa40_5 k rfl rfl) fun a k => sv k rfl (r_ldb t13 m 0 hb31 8 k rfl rfl rfl rfl rfl) fun a k => pN 1 k rfl fun a k => nn (cI h k rfl (fun hb50 h => ?_) fun hb50 h => ?_)))
 · refine wr (pN 1 k rfl fun a k => nn (wp_ret (rt_then ?_)))
   refine fS h k m rfl rfl
 refine wp_skip (nm_then ?_)
 refine wp_seq (wr (sv k rfl (r_fa fa40_6 k rfl rfl) fun a k => sv k rfl (r_ldb t138 m 1 hb28 9 k rfl rfl rfl rfl rfl) fun a k => sv k rfl (r_fa fa40_6 k rfl rfl) fun a k => sv k rfl (r_ldb t138 m 0 hb31 9 k rfl rfl rfl rfl rfl) fun a k => oE h fun x51 hx52 h => cE k m call82 rfl rfl rfl (c_laws_eqItemS fu _ _ (Enc.rd_agr hf17 (m.a00 (Enc.rd_lt hf17))) (Enc.rd_agr hf26 (m.a00 (Enc.rd_lt hf26))) hx52) fun w54 e a k m => pN 1 k rfl fun a k => nn (cI h k rfl (fun hb55 h => ?_) fun hb55 h => ?_)))
 · refine wr (pN 1 k rfl fun a k => nn (wp_ret (rt_then ?_)))
   refine fS h k m rfl rfl
 refine wp_skip (nm_then ?_)
 refine wr (pN 1 k rfl fun a k => nn (wp_ret (fS h k m rfl rfl)))
theorem c_laws_eqIntS (fu : Nat) {w0 : World} (a1 : List Int) (b5 : List Int) {v2 : Value} {F3 : List Nat} (hp4 : rd w0 F3 [v2] a1) {v6 : Value} {F7 : List Nat} (hp8 : rd w0 F7 [v6] b5) {r : Bool}
    (h : d_laws_eqIntS fu a1 b5 = some r) :
    Calls Tryz.prog 43 #[v2, v6] w0 fun e w => e = .returned (.bool (r)) ∧ Ext [] w0 w := by
 refine enter (vs := [_, _]) func43 rfl ntmps43 rfl fun a k => ?_
 have m := St.start w0
 unfold d_laws_eqIntS at h
 refine wr (pN 1 k rfl fun a k => nn (wp_seq (wr (pN 1 k rfl fun a k => sv k rfl (r_len (α := Int) hp4 k underlying29 rfl rfl) fun a k => pN 1 k rfl fun a k => sv k rfl (r_len (α := Int) hp8 k underlying29 rfl rfl) fun a k => pN 1 k rfl fun a k => nn (cI h k rfl (fun hb9 h => ?_) fun hb9 h => ?_)))))
 · refine wr (pN 1 k rfl fun a k => nn (wp_ret (rt_then ?_)))
   refine fS h k m rfl rfl
 refine wp_skip (nm_then ?_)
 refine wp_seq (wr (pN 1 k rfl fun a k => nn (wp_block (c_loop (fun n a w => ∃ (i28 : Int), K 26 [(0, v2), (1, v6), (5, .int .i64 i28)] a ∧ St [] w0 w [] ∧ d_laws_eqIntS_L1 fu a1 b5 n i28 = some r) ?_ ?_ fu _ _ ?_))))
 · rintro a w ⟨_, _, _, h⟩
   exact nS h
 · rintro m29 a w27 ⟨i28, k, m, h⟩
   rw [d_laws_eqIntS_L1_s] at h
   unfold d_laws_eqIntS_L1_B at h
   refine wp_seq (wr (pN 2 k rfl fun a k => sv k rfl (r_len (α := Int) hp4 k underlying29 rfl rfl) fun a k => pN 1 k rfl fun a k => nn (cI h k rfl (fun hb30 h => ?_) fun hb30 h => ?_)))
   · refine wp_skip (nm_then ?_)
     refine wp_seq (wp_block (wp_seq (d_go [] mixo m rfl fun w31 hMd => ?_)))
     have m := hMd
     have s := Ext.refl ([] : List Nat) w31
     refine dp k 0 rfl (by kernel_rfl) rfl s (fun _ _ _ => id) rfl fun a k => dp k 1 rfl (by kernel_rfl) rfl s (fun _ _ _ => id) rfl fun a k => oE h fun x32 hx33 h => dt k 2 rfl (by kernel_rfl) rfl s (fun _ _ _ => id) (fun w s => r_ixa hp4 hx33 k ts29 rfl rfl rfl) fun a k => dt k 3 rfl (by kernel_rfl) rfl s (fun _ _ _ => id) (fun w s => r_lde1 hp4 ((hMd.step s).a00 (Enc.rd_lt hp4)) hx33 0 t13 k rfl rfl rfl rfl) fun a k => dp k 4 rfl (by kernel_rfl) rfl s (fun _ _ _ => id) rfl fun a k => dp k 5 rfl (by kernel_rfl) rfl s (fun _ _ _ => id) rfl fun a k => oE h fun x34 hx35 h => dt k 6 rfl (by kernel_rfl) rfl s (fun _ _ _ => id) (fun w s => r_ixa hp8 hx35 k ts29 rfl rfl rfl) fun a k => dt k 7 rfl (by kernel_rfl) rfl s (fun _ _ _ => id) (fun w s => r_lde1 hp8 ((hMd.step s).a00 (Enc.rd_lt hp8)) hx35 0 t13 k rfl rfl rfl rfl) fun a k => ?_
     refine dp k 8 rfl (by kernel_rfl) rfl s (fun _ _ _ => id) rfl fun a k => d_done (by kernel_rfl) ((nm_then ?_))
     refine cI h k rfl (fun hb36 h => ?_) fun hb36 h => ?_
     · refine wr (pN 1 k rfl fun a k => nn (wp_ret (rt_block (rt_then (rt_then (rt_block (rt_then ?_)))))))
       refine fS h k m rfl rfl
     refine wp_skip (nm_block (nm_then ?_))
     refine wp_region_lit (pN 3 k rfl fun a k => nn ?_)
     exact ⟨w64 (i28 + 1), k.keep [0, 1, 5] rfl, m.sel [] rfl (by decide), h⟩
   refine wp_exit (ex_then (ex_then (ex_same (nm_then ?_))))
   refine wr (pN 1 k rfl fun a k => nn (wp_ret (fS h k m rfl rfl)))
 exact ⟨0, k.keep [0, 1, 5] rfl, m.sel [] rfl (by decide), h⟩
theorem c_laws_eqIntSS (fu : Nat) {w0 : World} (a1 : List (List Int)) (b5 : List (List Int)) {v2 : Value} {F3 : List Nat} (hp4 : rd w0 F3 [v2] a1) {v6 : Value} {F7 : List Nat} (hp8 : rd w0 F7 [v6] b5) {r : Bool}
    (h : d_laws_eqIntSS fu a1 b5 = some r) :
    Calls Tryz.prog 25 #[v2, v6] w0 fun e w => e = .returned (.bool (r)) ∧ Ext [] w0 w := by
 refine enter (vs := [_, _]) func25 rfl ntmps25 rfl fun a k => ?_
 have m := St.start w0
 unfold d_laws_eqIntSS at h
 refine wr (pN 1 k rfl fun a k => nn (wp_seq (wr (pN 1 k rfl fun a k => sv k rfl (r_len (α := List Int) hp4 k underlying47 rfl rfl) fun a k => pN 1 k rfl fun a k => sv k rfl (r_len (α := List Int) hp8 k underlying47 rfl rfl) fun a k => pN 1 k rfl fun a k => nn (cI h k rfl (fun hb9 h => ?_) fun hb9 h => ?_)))))
 · refine wr (pN 1 k rfl fun a k => nn (wp_ret (rt_then ?_)))
   refine fS h k m rfl rfl
 refine wp_skip (nm_then ?_)
 refine wp_seq (wr (pN 1 k rfl fun a k => nn (wp_block (c_loop (fun n a w => ∃ (i64 : Int), K 27 [(0, v2), (1, v6), (5, .int .i64 i64)] a ∧ St [] w0 w [] ∧ d_laws_eqIntSS_L1 fu a1 b5 n i64 = some r) ?_ ?_ fu _ _ ?_))))
 · rintro a w ⟨_, _, _, h⟩
   exact nS h
 · rintro m65 a w63 ⟨i64, k, m, h⟩
   rw [d_laws_eqIntSS_L1_s] at h
   unfold d_laws_eqIntSS_L1_B at h
   refine wp_seq (wr (pN 2 k rfl fun a k => sv k rfl (r_len (α := List Int) hp4 k underlying47 rfl rfl) fun a k => pN 1 k rfl fun a k => nn (cI h k rfl (fun hb66 h => ?_) fun hb66 h => ?_)))
   · refine wp_skip (nm_then ?_)
     refine wp_seq (wp_block (wp_seq (d_go [] mixo m rfl fun w67 hMd => ?_)))
     have m := hMd
     have s := Ext.refl ([] : List Nat) w67
     refine dp k 0 rfl (by kernel_rfl) rfl s (fun _ _ _ => id) rfl fun a k => dp k 1 rfl (by kernel_rfl) rfl s (fun _ _ _ => id) rfl fun a k => oE h fun x68 hx69 h => dt k 2 rfl (by kernel_rfl) rfl s (fun _ _ _ => id) (fun w s => r_ixa hp4 hx69 k ts47 rfl rfl rfl) fun a k => ?_
     obtain ⟨G70, cs71, hG72, hr73, hp74, hb75⟩ := rd_get hp4 (ix_some hx69).2.2
     obtain ⟨v76, rfl⟩ : ∃ v, cs71 = [v] := by obtain ⟨_, _, hq, _⟩ := hr73; exact ⟨_, hq⟩
     refine dt k 3 rfl (by kernel_rfl) rfl s (fun _ _ _ => id) (fun w s => r_ld1 t129 (hp74.agr ((hMd.step s).a00 (Enc.rd_lt hp4)) hb75) k rfl rfl) fun a k => dp k 4 rfl (by kernel_rfl) rfl s (fun _ _ _ => id) rfl fun a k => dp k 5 rfl (by kernel_rfl) rfl s (fun _ _ _ => id) rfl fun a k => oE h fun x77 hx78 h => dt k 6 rfl (by kernel_rfl) rfl s (fun _ _ _ => id) (fun w s => r_ixa hp8 hx78 k ts47 rfl rfl rfl) fun a k => ?_
     obtain ⟨G79, cs80, hG81, hr82, hp83, hb84⟩ := rd_get hp8 (ix_some hx78).2.2
     obtain ⟨v85, rfl⟩ : ∃ v, cs80 = [v] := by obtain ⟨_, _, hq, _⟩ := hr82; exact ⟨_, hq⟩
     refine dt k 7 rfl (by kernel_rfl) rfl s (fun _ _ _ => id) (fun w s => r_ld1 t129 (hp83.agr ((hMd.step s).a00 (Enc.rd_lt hp8)) hb84) k rfl rfl) fun a k => d_one 8 (by kernel_rfl) rfl (oE h fun x86 hx87 h => cE k m call43 rfl rfl rfl (c_laws_eqIntS fu _ _ (Enc.rd_agr hr73 (m.a00 (Enc.rd_lt hr73))) (Enc.rd_agr hr82 (m.a00 (Enc.rd_lt hr82))) hx87) fun w89 e a k m => ?_)
     have s := s.trans e (by simp)
     refine wpList_nil ⟨s, ?_⟩
     refine dp k 9 rfl (by kernel_rfl) rfl s (fun _ _ _ => id) rfl fun a k => d_done (by kernel_rfl) ((nm_then ?_))
     refine cI h k rfl (fun hb90 h => ?_) fun hb90 h => ?_
     · refine wr (pN 1 k rfl fun a k => nn (wp_ret (rt_block (rt_then (rt_then (rt_block (rt_then ?_)))))))
       refine fS h k m rfl rfl
     refine wp_skip (nm_block (nm_then ?_))
     refine wp_region_lit (pN 3 k rfl fun a k => nn ?_)
     exact ⟨w64 (i64 + 1), k.keep [0, 1, 5] rfl, m.sel [] rfl (by decide), h⟩
   refine wp_exit (ex_then (ex_then (ex_same (nm_then ?_))))
   refine wr (pN 1 k rfl fun a k => nn (wp_ret (fS h k m rfl rfl)))
 exact ⟨0, k.keep [0, 1, 5] rfl, m.sel [] rfl (by decide), h⟩
theorem c_laws_FnExactIsRival (fu : Nat) {w0 : World} (aR1 : Request) (aCartons5 : List (List Int)) {cs2 : List Value} {F3 : List Nat} (hp4 : rd w0 F3 cs2 aR1) {v6 : Value} {F7 : List Nat} (hp8 : rd w0 F7 [v6] aCartons5) {r : Bool}
    (h : d_laws_FnExactIsRival fu aR1 aCartons5 = some r) :
    Calls Tryz.prog 11 #[.agg cs2.toArray, v6] w0 fun e w => e = .returned (.bool (r)) ∧ Ext [] w0 w := by
 refine enter (vs := [_, _]) func11 rfl ntmps11 rfl fun a k => ?_
 have m := St.start w0
 obtain ⟨v9, F10, v11, F12, v13, F14, rfl, rfl, hf15, hf16, hf17⟩ := hp4
 unfold d_laws_FnExactIsRival at h
 refine wr (s_box (cs := [.int .i64 aR1.fWay, .int .i64 aR1.fPallet.fW, .int .i64 aR1.fPallet.fD, .int .i64 aR1.fPallet.fH, .int .i64 aR1.fPallet.fGram, .int .i64 aR1.fClasses, v9, v11, .int .i64 aR1.fMaster, v13]) m k rfl rfl rfl rfl rfl rfl fun b18 w20 a k m e hb19 => pN 1 k rfl fun a k => nn (wr (pN 1 k rfl fun a k => nn (wr (sv k rfl (r_ldB ta28 m 0 hb19 0 k rfl rfl rfl rfl rfl rfl) fun a k => pN 1 k rfl fun a k => oE h fun x21 hx22 h => ?_)))))
 refine cE k m call15 rfl rfl rfl (c_laws_szRequest fu _ _ (show rd _ _ [.int .i64 aR1.fWay, .int .i64 aR1.fPallet.fW, .int .i64 aR1.fPallet.fD, .int .i64 aR1.fPallet.fH, .int .i64 aR1.fPallet.fGram, .int .i64 aR1.fClasses, v9, v11, .int .i64 aR1.fMaster, v13] (aR1 : Request) from ⟨_, _, _, _, _, _, rfl, rfl, (Enc.rd_agr hf15 (m.a00 (Enc.rd_lt hf15))), (Enc.rd_agr hf16 (m.a00 (Enc.rd_lt hf16))), (Enc.rd_agr hf17 (m.a00 (Enc.rd_lt hf17)))⟩) hx22) fun w24 e a k m => pN 1 k rfl fun a k => nn (wp_seq (wr (pN 2 k rfl fun a k => nn (cI h k rfl (fun hb25 h => ?_) fun hb25 h => ?_))))
 · refine wr (pN 1 k rfl fun a k => nn (wp_ret (rt_then ?_)))
   refine fS h k m rfl rfl
 refine wp_skip (nm_then ?_)
 refine wr (pN 2 k rfl fun a k => oE h fun x26 hx27 h => cE k m call33 rfl rfl rfl (c_laws_szIntSS fu _ _ (Enc.rd_agr hp8 (m.a00 (Enc.rd_lt hp8))) hx27) fun w29 e a k m => pN 1 k rfl fun a k => nn (wp_seq (wr (pN 2 k rfl fun a k => nn (cI h k rfl (fun hb30 h => ?_) fun hb30 h => ?_)))))
 · refine wr (pN 1 k rfl fun a k => nn (wp_ret (rt_then ?_)))
   refine fS h k m rfl rfl
 refine wp_skip (nm_then ?_)
 refine wr (sv k rfl (r_ldB ta28 m 0 hb19 0 k rfl rfl rfl rfl rfl rfl) fun a k => oE h fun x31 hx32 h => s_call k call18 rfl rfl rfl rfl rfl (c_laws_toRequest fu _ (show rd _ _ [.int .i64 aR1.fWay, .int .i64 aR1.fPallet.fW, .int .i64 aR1.fPallet.fD, .int .i64 aR1.fPallet.fH, .int .i64 aR1.fPallet.fGram, .int .i64 aR1.fClasses, v9, v11, .int .i64 aR1.fMaster, v13] (aR1 : Request) from ⟨_, _, _, _, _, _, rfl, rfl, (Enc.rd_agr hf15 (m.a00 (Enc.rd_lt hf15))), (Enc.rd_agr hf16 (m.a00 (Enc.rd_lt hf16))), (Enc.rd_agr hf17 (m.a00 (Enc.rd_lt hf17)))⟩) hx32) fun e33 w34 hR => ?_)
 obtain ⟨cs39, F35, rfl, e, hf36, hfr37⟩ := hR
 refine ⟨_, rfl, fun a k => ?_⟩
 have m := m.new e F35 (fun b hb => ⟨hfr37 b hb, Enc.rd_lt (Enc.ow_rd hf36) b hb⟩) (Enc.ow_nd hf36)
 obtain ⟨v40, F41, v43, F44, v46, F47, rfl, rfl, hf42, hf45, hf48, _⟩ := hf36
 have m := m.split2
 have m := m.split2at1
 refine pN 1 k rfl fun a k => oE h fun x49 hx50 h => s_call k call35 rfl rfl rfl rfl rfl (c_laws_toIntSS fu _ (Enc.rd_agr hp8 (m.a00 (Enc.rd_lt hp8))) hx50) fun e51 w52 hR => ?_
 obtain ⟨v57, F53, rfl, e, hf54, hfr55⟩ := hR
 refine ⟨_, rfl, fun a k => ?_⟩
 have m := m.new e F53 (fun b hb => ⟨hfr55 b hb, Enc.rd_lt (Enc.ow_rd hf54) b hb⟩) (Enc.ow_nd hf54)
 refine oE h fun x58 hx59 h => cE k m call51 rfl rfl rfl (c_spec_IsRival fu _ _ (show rd _ _ [.int .i64 x31.fWay, .int .i64 x31.fPallet.fW, .int .i64 x31.fPallet.fD, .int .i64 x31.fPallet.fH, .int .i64 x31.fPallet.fGram, .int .i64 x31.fClasses, v40, v43, .int .i64 x31.fMaster, v46] (x31 : Request) from ⟨_, _, _, _, _, _, rfl, rfl, (Enc.rd_agr (Enc.ow_rd hf42) (m.a 1 rfl)), (Enc.rd_agr (Enc.ow_rd hf45) (m.a 2 rfl)), (Enc.rd_agr (Enc.ow_rd hf48) (m.a 3 rfl))⟩) (Enc.rd_agr (Enc.ow_rd hf54) (m.a 0 rfl)) hx59) fun w61 e a k m => pN 1 k rfl fun a k => nn (wr (sv k rfl (r_ldB ta28 m 4 hb19 0 k rfl rfl rfl rfl rfl rfl) fun a k => oE h fun x62 hx63 h => ?_))
 refine s_call k call18 rfl rfl rfl rfl rfl (c_laws_toRequest fu _ (show rd _ _ [.int .i64 aR1.fWay, .int .i64 aR1.fPallet.fW, .int .i64 aR1.fPallet.fD, .int .i64 aR1.fPallet.fH, .int .i64 aR1.fPallet.fGram, .int .i64 aR1.fClasses, v9, v11, .int .i64 aR1.fMaster, v13] (aR1 : Request) from ⟨_, _, _, _, _, _, rfl, rfl, (Enc.rd_agr hf15 (m.a00 (Enc.rd_lt hf15))), (Enc.rd_agr hf16 (m.a00 (Enc.rd_lt hf16))), (Enc.rd_agr hf17 (m.a00 (Enc.rd_lt hf17)))⟩) hx63) fun e64 w65 hR => ?_
 obtain ⟨cs70, F66, rfl, e, hf67, hfr68⟩ := hR
 refine ⟨_, rfl, fun a k => ?_⟩
 have m := m.new e F66 (fun b hb => ⟨hfr68 b hb, Enc.rd_lt (Enc.ow_rd hf67) b hb⟩) (Enc.ow_nd hf67)
 obtain ⟨v71, F72, v74, F75, v77, F78, rfl, rfl, hf73, hf76, hf79, _⟩ := hf67
 have m := m.split2
 have m := m.split2at1
 refine s_alloc (cs := [.int .i64 0, .int .i64 0, .int .i64 0, .int .i64 0, .int .i64 0, .int .i64 0, .slice none 0 0, .slice none 0 0, .int .i64 0, .slice none 0 0]) m k zeroValue40 rfl rfl rfl rfl rfl fun b80 w82 a k m e hb81 => s_stb (cs' := [.int .i64 x62.fWay, .int .i64 x62.fPallet.fW, .int .i64 x62.fPallet.fD, .int .i64 x62.fPallet.fH, .int .i64 x62.fPallet.fGram, .int .i64 x62.fClasses, v71, v74, .int .i64 x62.fMaster, v77]) sizeOf40 m 0 hb81 0 k rfl rfl rfl rfl rfl rfl rfl rfl rfl rfl (allc rfl (allc rfl (allc rfl (allc rfl (allc rfl (allc rfl (allc (rd_o (Enc.ow_rd hf73)) (allc (rd_o (Enc.ow_rd hf76)) (allc rfl (allc (rd_o (Enc.ow_rd hf79)) alln)))))))))) fun w83 a k e m hb84 => ?_
 have k := k.keep [1, 2, 6, 7] rfl
 refine nn (wr (pN 1 k rfl fun a k => oE h fun x85 hx86 h => s_call k call35 rfl rfl rfl rfl rfl (c_laws_toIntSS fu _ (Enc.rd_agr hp8 (m.a00 (Enc.rd_lt hp8))) hx86) fun e87 w88 hR => ?_))
 obtain ⟨v93, F89, rfl, e, hf90, hfr91⟩ := hR
 refine ⟨_, rfl, fun a k => ?_⟩
 have m := m.new e F89 (fun b hb => ⟨hfr91 b hb, Enc.rd_lt (Enc.ow_rd hf90) b hb⟩) (Enc.ow_nd hf90)
 refine pN 1 k rfl fun a k => nn (wr (sv k rfl (r_ldB ta40 m 1 hb84 0 k rfl rfl rfl rfl rfl rfl) fun a k => pN 1 k rfl fun a k => oE h fun x94 hx95 h => cE k m call52 rfl rfl rfl (c_impl_IsRival fu _ _ (show rd _ _ [.int .i64 x62.fWay, .int .i64 x62.fPallet.fW, .int .i64 x62.fPallet.fD, .int .i64 x62.fPallet.fH, .int .i64 x62.fPallet.fGram, .int .i64 x62.fClasses, v71, v74, .int .i64 x62.fMaster, v77] (x62 : Request) from ⟨_, _, _, _, _, _, rfl, rfl, (Enc.rd_agr (Enc.ow_rd hf73) (m.a 2 rfl)), (Enc.rd_agr (Enc.ow_rd hf76) (m.a 3 rfl)), (Enc.rd_agr (Enc.ow_rd hf79) (m.a 4 rfl))⟩) (Enc.rd_agr (Enc.ow_rd hf90) (m.a 0 rfl)) hx95) fun w97 e a k m => pN 1 k rfl fun a k => nn (wp_seq (wr (pN 2 k rfl fun a k => sv k rfl (r_neb k underlying4 rfl rfl rfl) fun a k => nn (cI h k rfl (fun hb98 h => ?_) fun hb98 h => ?_))))))
 · refine wr (pN 1 k rfl fun a k => nn (wp_ret (rt_then ?_)))
   refine fS h k m rfl rfl
 refine wp_skip (nm_then ?_)
 refine wp_seq (wp_seq (d_go [] mixo m rfl fun w99 hMd => ?_))
 have m := hMd
 have s := Ext.refl ([] : List Nat) w99
 refine dt k 0 rfl (by kernel_rfl) rfl s (fun _ _ _ => id) (fun w s => r_ldA ta40 (hb84.at ((hMd.step s).a 1 rfl) 0 10 rfl rfl rfl) rfl k rfl rfl) fun a k => dt k 1 rfl (by kernel_rfl) rfl s (fun _ _ _ => id) (fun w s => r_ldA ta28 (hb19.at ((hMd.step s).a 9 rfl) 0 10 rfl rfl rfl) rfl k rfl rfl) fun a k => d_one 2 (by kernel_rfl) rfl (oE h fun x100 hx101 h => s_call k call18 rfl rfl rfl rfl rfl (c_laws_toRequest fu _ (show rd _ _ [.int .i64 aR1.fWay, .int .i64 aR1.fPallet.fW, .int .i64 aR1.fPallet.fD, .int .i64 aR1.fPallet.fH, .int .i64 aR1.fPallet.fGram, .int .i64 aR1.fClasses, v9, v11, .int .i64 aR1.fMaster, v13] (aR1 : Request) from ⟨_, _, _, _, _, _, rfl, rfl, (Enc.rd_agr hf15 (m.a00 (Enc.rd_lt hf15))), (Enc.rd_agr hf16 (m.a00 (Enc.rd_lt hf16))), (Enc.rd_agr hf17 (m.a00 (Enc.rd_lt hf17)))⟩) hx101) fun e102 w103 hR => ?_)
 obtain ⟨cs108, F104, rfl, e, hf105, hfr106⟩ := hR
 refine ⟨_, rfl, fun a k => ?_⟩
 have m := m.new e F104 (fun b hb => ⟨hfr106 b hb, Enc.rd_lt (Enc.ow_rd hf105) b hb⟩) (Enc.ow_nd hf105)
 have hlo109 := fun (y : Nat) (hy : y ∈ F104) => Nat.le_trans s.size (hfr106 y hy)
 obtain ⟨v110, F111, v113, F114, v116, F117, rfl, rfl, hf112, hf115, hf118, _⟩ := hf105
 have m := m.split2
 have m := m.split2at1
 have s := s.trans e (by simp)
 refine wpList_nil ⟨s, ?_⟩
 refine d_one 3 (by kernel_rfl) rfl (oE h fun x119 hx120 h => ?_)
 refine cE k m call21 rfl rfl rfl (c_laws_eqRequest fu _ _ (show rd _ _ [.int .i64 x62.fWay, .int .i64 x62.fPallet.fW, .int .i64 x62.fPallet.fD, .int .i64 x62.fPallet.fH, .int .i64 x62.fPallet.fGram, .int .i64 x62.fClasses, v71, v74, .int .i64 x62.fMaster, v77] (x62 : Request) from ⟨_, _, _, _, _, _, rfl, rfl, (Enc.rd_agr (Enc.ow_rd hf73) (m.a 5 rfl)), (Enc.rd_agr (Enc.ow_rd hf76) (m.a 6 rfl)), (Enc.rd_agr (Enc.ow_rd hf79) (m.a 7 rfl))⟩) (show rd _ _ [.int .i64 x100.fWay, .int .i64 x100.fPallet.fW, .int .i64 x100.fPallet.fD, .int .i64 x100.fPallet.fH, .int .i64 x100.fPallet.fGram, .int .i64 x100.fClasses, v110, v113, .int .i64 x100.fMaster, v116] (x100 : Request) from ⟨_, _, _, _, _, _, rfl, rfl, (Enc.rd_agr (Enc.ow_rd hf112) (m.a 0 rfl)), (Enc.rd_agr (Enc.ow_rd hf115) (m.a 1 rfl)), (Enc.rd_agr (Enc.ow_rd hf118) (m.a 2 rfl))⟩) hx120) fun w122 e a k m => ?_
 have s := s.trans e (by simp)
 refine wpList_nil ⟨s, ?_⟩
 refine dp k 4 rfl (by kernel_rfl) rfl s (fun _ _ _ => id) rfl fun a k => d_done (by kernel_rfl) ((nm_then ?_))
 refine cI h k rfl (fun hb123 h => ?_) fun hb123 h => ?_
 · refine wr (pN 1 k rfl fun a k => nn (wp_ret (rt_then ?_)))
   refine fS h k m rfl rfl
 refine wp_skip (nm_then ?_)
 refine wp_seq (wr (pN 2 k rfl fun a k => oE h fun x124 hx125 h => s_call k call35 rfl rfl rfl rfl rfl (c_laws_toIntSS fu _ (Enc.rd_agr hp8 (m.a00 (Enc.rd_lt hp8))) hx125) fun e126 w127 hR => ?_))
 obtain ⟨v132, F128, rfl, e, hf129, hfr130⟩ := hR
 refine ⟨_, rfl, fun a k => ?_⟩
 have m := m.new e F128 (fun b hb => ⟨hfr130 b hb, Enc.rd_lt (Enc.ow_rd hf129) b hb⟩) (Enc.ow_nd hf129)
 refine oE h fun x133 hx134 h => cE k m call25 rfl rfl rfl (c_laws_eqIntSS fu _ _ (Enc.rd_agr (Enc.ow_rd hf90) (m.a 4 rfl)) (Enc.rd_agr (Enc.ow_rd hf129) (m.a 0 rfl)) hx134) fun w136 e a k m => pN 1 k rfl fun a k => nn (cI h k rfl (fun hb137 h => ?_) fun hb137 h => ?_)
 · refine wr (pN 1 k rfl fun a k => ?_)
   have k := k.keep [4] rfl
   refine nn (wp_ret (rt_then ?_))
   refine fS h k m rfl rfl
 refine wp_skip (nm_then ?_)
 refine wr (pN 1 k rfl fun a k => ?_)
 have k := k.keep [4] rfl
 refine nn (wp_ret (fS h k m rfl rfl))

end Go.Proofs.YthjbcfefkdbgoaaGreat
