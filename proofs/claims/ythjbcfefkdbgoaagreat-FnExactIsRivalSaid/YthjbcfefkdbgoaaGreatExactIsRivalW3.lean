/- FnExactIsRival: the walks of functions that the law reaches, part 3. Printed by gen.py. -/
import Derived.Test.YthjbcfefkdbgoaaGreatExactIsRivalW2
set_option maxRecDepth 20000
set_option linter.unusedSimpArgs false
set_option linter.unusedVariables false
namespace Go.Proofs.YthjbcfefkdbgoaaGreat
open Go Go.RowKit
open Enc (rd ow)
open Arg (argv)
open Ret (retv)
open Go.Proofs.Tryz



def d_spec_l7Known_J1 (fu : Nat) (k3 : List Int → Int → Option ((List Int))) (i122 : Int) (out146 : List Int) : Option ((List Int)) :=
  k3 out146 (w64 (i122 + 1))

def d_spec_l7Known_L1_B (fu : Nat)  (all1 : List Int) (units5 : List Int) (k3 : List Int → Int → Option ((List Int))) (out117 : List Int) (i122 : Int) : Option ((List Int)) :=
  bif (decide (i122 < ((units5.length : Int)))) then obind (ix units5 i122) fun x151 => obind (d_spec_l1In fu x151 0 (w64 (((all1.length : Int)) - 1))) fun x153 => bif x153 then obind (ix units5 i122) fun x158 => obind (apnd 8 out117 (([x151] : List Int))) fun x165 => d_spec_l7Known_J1 fu k3 i122 x165 else d_spec_l7Known_J1 fu k3 i122 out117 else some (out117)
def d_spec_l7Known_L1 (fu : Nat)  (all1 : List Int) (units5 : List Int) : Nat → List Int → Int → Option ((List Int))
  | 0 => fun _ _ => none
  | n + 1 => d_spec_l7Known_L1_B fu all1 units5 (d_spec_l7Known_L1 fu all1 units5 n)
theorem d_spec_l7Known_L1_s (fu : Nat)  (all1 : List Int) (units5 : List Int) (n : Nat) : d_spec_l7Known_L1 fu all1 units5 (n + 1) = d_spec_l7Known_L1_B fu all1 units5 (d_spec_l7Known_L1 fu all1 units5 n) := rfl

def d_spec_l7Known (fu : Nat) (all1 : List Int) (units5 : List Int) : Option ((List Int)) :=
  d_spec_l7Known_L1 fu all1 units5 fu (([] : List Int)) 0

def d_spec_l1Bit (fu : Nat) (on1 : Bool) : Option (Int) :=
  bif on1 then some (1) else some (0)

def d_spec_l8Times_L1_B (fu : Nat)  (list1 : List Int) (x5 : Int) (k1 : Int → Int → Option (Int)) (n25 : Int) (i26 : Int) : Option (Int) :=
  bif (decide (i26 < ((list1.length : Int)))) then obind (ix list1 i26) fun x29 => obind (d_spec_l1Bit fu (x29 == x5)) fun x31 => k1 (w64 (n25 + x31)) (w64 (i26 + 1)) else some (n25)
def d_spec_l8Times_L1 (fu : Nat)  (list1 : List Int) (x5 : Int) : Nat → Int → Int → Option (Int)
  | 0 => fun _ _ => none
  | n + 1 => d_spec_l8Times_L1_B fu list1 x5 (d_spec_l8Times_L1 fu list1 x5 n)
theorem d_spec_l8Times_L1_s (fu : Nat)  (list1 : List Int) (x5 : Int) (n : Nat) : d_spec_l8Times_L1 fu list1 x5 (n + 1) = d_spec_l8Times_L1_B fu list1 x5 (d_spec_l8Times_L1 fu list1 x5 n) := rfl

def d_spec_l8Times (fu : Nat) (list1 : List Int) (x5 : Int) : Option (Int) :=
  d_spec_l8Times_L1 fu list1 x5 fu 0 0

def d_spec_IsPacking_L1_B (fu : Nat)  (flat805 : List Int) (x810 : (List Int)) (k18 : Int → Option (Bool)) (i854 : Int) : Option (Bool) :=
  bif (decide (i854 < ((flat805.length : Int)))) then obind (ix flat805 i854) fun x858 => obind (ix flat805 i854) fun x860 => obind (d_spec_l8Times fu flat805 x858) fun x862 => obind (d_spec_l8Times fu x810 x858) fun x866 => bif (x862 != x866) then some (false) else k18 (w64 (i854 + 1)) else some (true)
def d_spec_IsPacking_L1 (fu : Nat)  (flat805 : List Int) (x810 : (List Int)) : Nat → Int → Option (Bool)
  | 0 => fun _ => none
  | n + 1 => d_spec_IsPacking_L1_B fu flat805 x810 (d_spec_IsPacking_L1 fu flat805 x810 n)
theorem d_spec_IsPacking_L1_s (fu : Nat)  (flat805 : List Int) (x810 : (List Int)) (n : Nat) : d_spec_IsPacking_L1 fu flat805 x810 (n + 1) = d_spec_IsPacking_L1_B fu flat805 x810 (d_spec_IsPacking_L1 fu flat805 x810 n) := rfl

def d_spec_IsPacking_J1 (fu : Nat) (units5 : List Int) (x39 : (List Int)) (flat805 : List Int) : Option (Bool) :=
  obind (d_spec_l7Known fu x39 units5) fun x810 => bif (((x810.length : Int)) != ((flat805.length : Int))) then some (false) else d_spec_IsPacking_L1 fu flat805 x810 fu 0

def d_spec_IsPacking_J2 (fu : Nat) (k29 : List Int → Int → Option (Bool)) (i1375 : Int) (flat1498 : List Int) : Option (Bool) :=
  k29 flat1498 (w64 (i1375 + 1))

def d_spec_IsPacking_J3 (fu : Nat) (k29 : List Int → Int → Option (Bool)) (cartons9 : List (List Int)) (flat1370 : List Int) (i1375 : Int)  : Option (Bool) :=
  obind (ix cartons9 i1375) fun x1558 => obind (apnd 8 flat1370 x1558) fun x1567 => d_spec_IsPacking_J2 fu k29 i1375 x1567

def d_spec_IsPacking_J4 (fu : Nat) (k29 : List Int → Int → Option (Bool)) (cartons9 : List (List Int)) (x30 : Typ × Bool) (flat1370 : List Int) (i1375 : Int) (l1539 : L7) : Option (Bool) :=
  obind (ix cartons9 i1375) fun x1574 => bif (((x1574.length : Int)) == 0) then some (false) else obind (d_spec_Volume fu x30.1.fW x30.1.fH x30.1.fD) fun x1584 => bif (decide (l1539.fvol > x1584)) then some (false) else bif (decide (l1539.fgram > x30.1.fGram)) then some (false) else d_spec_IsPacking_J3 fu k29 cartons9 flat1370 i1375

def d_spec_IsPacking_L2_B (fu : Nat)  (r1 : Request) (units5 : List Int) (cartons9 : List (List Int)) (x30 : Typ × Bool) (x39 : (List Int)) (k29 : List Int → Int → Option (Bool)) (flat1370 : List Int) (i1375 : Int) : Option (Bool) :=
  bif (decide (i1375 < ((cartons9.length : Int)))) then obind (ix cartons9 i1375) fun x1591 => obind (d_spec_l7Of fu r1 x39 x1591) fun x1600 => d_spec_IsPacking_J4 fu k29 cartons9 x30 flat1370 i1375 x1600 else d_spec_IsPacking_J1 fu units5 x39 flat1370
def d_spec_IsPacking_L2 (fu : Nat)  (r1 : Request) (units5 : List Int) (cartons9 : List (List Int)) (x30 : Typ × Bool) (x39 : (List Int)) : Nat → List Int → Int → Option (Bool)
  | 0 => fun _ _ => none
  | n + 1 => d_spec_IsPacking_L2_B fu r1 units5 cartons9 x30 x39 (d_spec_IsPacking_L2 fu r1 units5 cartons9 x30 x39 n)
theorem d_spec_IsPacking_L2_s (fu : Nat)  (r1 : Request) (units5 : List Int) (cartons9 : List (List Int)) (x30 : Typ × Bool) (x39 : (List Int)) (n : Nat) : d_spec_IsPacking_L2 fu r1 units5 cartons9 x30 x39 (n + 1) = d_spec_IsPacking_L2_B fu r1 units5 cartons9 x30 x39 (d_spec_IsPacking_L2 fu r1 units5 cartons9 x30 x39 n) := rfl

def d_spec_IsPacking (fu : Nat) (r1 : Request) (units5 : List Int) (cartons9 : List (List Int)) : Option (Bool) :=
  obind (d_spec_Class fu r1) fun x25 => bif (x25 != 0) then some (false) else obind (d_spec_MasterOf fu r1) fun x30 => obind (d_spec_l6Units fu r1) fun x39 => d_spec_IsPacking_L2 fu r1 units5 cartons9 x30 x39 fu (([] : List Int)) 0

def d_spec_IsRival_J1 (fu : Nat) (k403 : Int → Option (Bool)) (i20874 : Int)  : Option (Bool) :=
  k403 (w64 (i20874 + 1))

def d_spec_IsRival_J2 (fu : Nat) (k571 : Int → Option (Bool)) (a29553 : Int)  : Option (Bool) :=
  k571 (w64 (a29553 + 1))

def d_spec_IsRival_J3 (fu : Nat) (k599 : Int → Option (Bool)) (b31001 : Int)  : Option (Bool) :=
  k599 (w64 (b31001 + 1))

def d_spec_IsRival_J4 (fu : Nat) (k599 : Int → Option (Bool)) (r1 : Request) (b31001 : Int) (i31182 : Item) (i31221 : Item) : Option (Bool) :=
  obind (d_spec_Beside fu r1.fPairs i31182.fClass i31221.fClass) fun x31222 => bif (!x31222) then some (false) else d_spec_IsRival_J3 fu k599 b31001

def d_spec_IsRival_J5 (fu : Nat) (k599 : Int → Option (Bool)) (r1 : Request) (cartons5 : List (List Int)) (x21 : (List Int)) (i20874 : Int) (b31001 : Int) (i31182 : Item) : Option (Bool) :=
  obind (ix cartons5 i20874) fun x31228 => obind (ix x31228 b31001) fun x31237 => obind (d_spec_l6Item fu r1 x21 x31237) fun x31239 => d_spec_IsRival_J4 fu k599 r1 b31001 i31182 x31239.1

def d_spec_IsRival_L1_B (fu : Nat) (k571 : Int → Option (Bool)) (r1 : Request) (cartons5 : List (List Int)) (x21 : (List Int)) (i20874 : Int) (a29553 : Int) (k599 : Int → Option (Bool)) (b31001 : Int) : Option (Bool) :=
  obind (ix cartons5 i20874) fun x31003 => bif (decide (b31001 < ((x31003.length : Int)))) then obind (ix cartons5 i20874) fun x31262 => obind (ix x31003 a29553) fun x31264 => obind (d_spec_l6Item fu r1 x21 x31264) fun x31266 => d_spec_IsRival_J5 fu k599 r1 cartons5 x21 i20874 b31001 x31266.1 else d_spec_IsRival_J2 fu k571 a29553
def d_spec_IsRival_L1 (fu : Nat) (k571 : Int → Option (Bool)) (r1 : Request) (cartons5 : List (List Int)) (x21 : (List Int)) (i20874 : Int) (a29553 : Int) : Nat → Int → Option (Bool)
  | 0 => fun _ => none
  | n + 1 => d_spec_IsRival_L1_B fu k571 r1 cartons5 x21 i20874 a29553 (d_spec_IsRival_L1 fu k571 r1 cartons5 x21 i20874 a29553 n)
theorem d_spec_IsRival_L1_s (fu : Nat) (k571 : Int → Option (Bool)) (r1 : Request) (cartons5 : List (List Int)) (x21 : (List Int)) (i20874 : Int) (a29553 : Int) (n : Nat) : d_spec_IsRival_L1 fu k571 r1 cartons5 x21 i20874 a29553 (n + 1) = d_spec_IsRival_L1_B fu k571 r1 cartons5 x21 i20874 a29553 (d_spec_IsRival_L1 fu k571 r1 cartons5 x21 i20874 a29553 n) := rfl

def d_spec_IsRival_L2_B (fu : Nat) (k403 : Int → Option (Bool)) (r1 : Request) (cartons5 : List (List Int)) (x21 : (List Int)) (i20874 : Int) (k571 : Int → Option (Bool)) (a29553 : Int) : Option (Bool) :=
  obind (ix cartons5 i20874) fun x29555 => bif (decide (a29553 < ((x29555.length : Int)))) then d_spec_IsRival_L1 fu k571 r1 cartons5 x21 i20874 a29553 fu 0 else d_spec_IsRival_J1 fu k403 i20874
def d_spec_IsRival_L2 (fu : Nat) (k403 : Int → Option (Bool)) (r1 : Request) (cartons5 : List (List Int)) (x21 : (List Int)) (i20874 : Int) : Nat → Int → Option (Bool)
  | 0 => fun _ => none
  | n + 1 => d_spec_IsRival_L2_B fu k403 r1 cartons5 x21 i20874 (d_spec_IsRival_L2 fu k403 r1 cartons5 x21 i20874 n)
theorem d_spec_IsRival_L2_s (fu : Nat) (k403 : Int → Option (Bool)) (r1 : Request) (cartons5 : List (List Int)) (x21 : (List Int)) (i20874 : Int) (n : Nat) : d_spec_IsRival_L2 fu k403 r1 cartons5 x21 i20874 (n + 1) = d_spec_IsRival_L2_B fu k403 r1 cartons5 x21 i20874 (d_spec_IsRival_L2 fu k403 r1 cartons5 x21 i20874 n) := rfl

def d_spec_IsRival_L3_B (fu : Nat)  (r1 : Request) (cartons5 : List (List Int)) (x21 : (List Int)) (k403 : Int → Option (Bool)) (i20874 : Int) : Option (Bool) :=
  bif (decide (i20874 < ((cartons5.length : Int)))) then d_spec_IsRival_L2 fu k403 r1 cartons5 x21 i20874 fu 0 else some (true)
def d_spec_IsRival_L3 (fu : Nat)  (r1 : Request) (cartons5 : List (List Int)) (x21 : (List Int)) : Nat → Int → Option (Bool)
  | 0 => fun _ => none
  | n + 1 => d_spec_IsRival_L3_B fu r1 cartons5 x21 (d_spec_IsRival_L3 fu r1 cartons5 x21 n)
theorem d_spec_IsRival_L3_s (fu : Nat)  (r1 : Request) (cartons5 : List (List Int)) (x21 : (List Int)) (n : Nat) : d_spec_IsRival_L3 fu r1 cartons5 x21 (n + 1) = d_spec_IsRival_L3_B fu r1 cartons5 x21 (d_spec_IsRival_L3 fu r1 cartons5 x21 n) := rfl

def d_spec_IsRival (fu : Nat) (r1 : Request) (cartons5 : List (List Int)) : Option (Bool) :=
  obind (d_spec_Units fu r1) fun x21 => obind (d_spec_l1Places fu ((x21.length : Int))) fun x31 => obind (d_spec_IsPacking fu r1 x31 cartons5) fun x41 => bif (!x41) then some (false) else d_spec_IsRival_L3 fu r1 cartons5 x21 fu 0

def d_impl_TypeById_1 (fu : Nat) (t1 : Typ) (x2 : Int) : Option (Bool) :=
  some (t1.fId == x2)

def d_slices_IndexFunc_impl_Type_impl_Type_L1_B (fu : Nat)  (sv1 : List Typ) (f5 : Typ → Option Bool) (k1 : Int → Option (Int)) (x32 : Int) : Option (Int) :=
  bif (decide (x32 < ((sv1.length : Int)))) then obind (ix sv1 x32) fun x35 => obind (f5 x35) fun x37 => bif x37 then some (x32) else k1 (w64 (x32 + 1)) else some ((-1))
def d_slices_IndexFunc_impl_Type_impl_Type_L1 (fu : Nat)  (sv1 : List Typ) (f5 : Typ → Option Bool) : Nat → Int → Option (Int)
  | 0 => fun _ => none
  | n + 1 => d_slices_IndexFunc_impl_Type_impl_Type_L1_B fu sv1 f5 (d_slices_IndexFunc_impl_Type_impl_Type_L1 fu sv1 f5 n)
theorem d_slices_IndexFunc_impl_Type_impl_Type_L1_s (fu : Nat)  (sv1 : List Typ) (f5 : Typ → Option Bool) (n : Nat) : d_slices_IndexFunc_impl_Type_impl_Type_L1 fu sv1 f5 (n + 1) = d_slices_IndexFunc_impl_Type_impl_Type_L1_B fu sv1 f5 (d_slices_IndexFunc_impl_Type_impl_Type_L1 fu sv1 f5 n) := rfl

def d_slices_IndexFunc_impl_Type_impl_Type (fu : Nat) (sv1 : List Typ) (f5 : Typ → Option Bool) : Option (Int) :=
  d_slices_IndexFunc_impl_Type_impl_Type_L1 fu sv1 f5 fu 0

def d_impl_TypeById (fu : Nat) (r1 : Request) (id5 : Int) : Option (Typ × Bool) :=
  obind (d_slices_IndexFunc_impl_Type_impl_Type fu r1.fTypes (fun y24 => d_impl_TypeById_1 fu y24 id5)) fun x27 => bif (decide (x27 < 0)) then some ((⟨0, 0, 0, 0, 0, 0, 0⟩ : Typ), false) else obind (ix r1.fTypes x27) fun x34 => some (x34, true)

def d_impl_MasterOf (fu : Nat) (r1 : Request) : Option (Typ × Bool) :=
  obind (d_impl_TypeById fu r1 r1.fMaster) fun x20 => some (x20.1, x20.2)

def d_impl_in (fu : Nat) (n1 : Int) (lo2 : Int) (hi3 : Int) : Option (Bool) :=
  bif (decide (n1 ≥ lo2)) then some (decide (n1 ≤ hi3)) else some (false)

def d_impl_isSide (fu : Nat) (n1 : Int) : Option (Bool) :=
  obind (d_impl_in fu n1 1 2000) fun x2 => some (x2)

def d_impl_PalletOk (fu : Nat) (x1 : Pallet) : Option (Bool) :=
  obind (d_impl_isSide fu x1.fW) fun x5 => bif x5 then obind (d_impl_isSide fu x1.fD) fun x10 => bif x10 then obind (d_impl_isSide fu x1.fH) fun x15 => bif x15 then obind (d_impl_in fu x1.fGram 1 100000) fun x20 => some (x20) else some (false) else some (false) else some (false)

def d_slices_IndexFunc_impl_Pair_impl_Pair_L1_B (fu : Nat)  (sv1 : List Pair) (f5 : Pair → Option Bool) (k1 : Int → Option (Int)) (x32 : Int) : Option (Int) :=
  bif (decide (x32 < ((sv1.length : Int)))) then obind (ix sv1 x32) fun x35 => obind (f5 x35) fun x37 => bif x37 then some (x32) else k1 (w64 (x32 + 1)) else some ((-1))
def d_slices_IndexFunc_impl_Pair_impl_Pair_L1 (fu : Nat)  (sv1 : List Pair) (f5 : Pair → Option Bool) : Nat → Int → Option (Int)
  | 0 => fun _ => none
  | n + 1 => d_slices_IndexFunc_impl_Pair_impl_Pair_L1_B fu sv1 f5 (d_slices_IndexFunc_impl_Pair_impl_Pair_L1 fu sv1 f5 n)
theorem d_slices_IndexFunc_impl_Pair_impl_Pair_L1_s (fu : Nat)  (sv1 : List Pair) (f5 : Pair → Option Bool) (n : Nat) : d_slices_IndexFunc_impl_Pair_impl_Pair_L1 fu sv1 f5 (n + 1) = d_slices_IndexFunc_impl_Pair_impl_Pair_L1_B fu sv1 f5 (d_slices_IndexFunc_impl_Pair_impl_Pair_L1 fu sv1 f5 n) := rfl

def d_slices_IndexFunc_impl_Pair_impl_Pair (fu : Nat) (sv1 : List Pair) (f5 : Pair → Option Bool) : Option (Int) :=
  d_slices_IndexFunc_impl_Pair_impl_Pair_L1 fu sv1 f5 fu 0

def d_slices_ContainsFunc_impl_Pair_impl_Pair (fu : Nat) (sv1 : List Pair) (f5 : Pair → Option Bool) : Option (Bool) :=
  obind (d_slices_IndexFunc_impl_Pair_impl_Pair fu sv1 f5) fun x14 => some (decide (x14 ≥ 0))

def d_impl_BoundsOk_1 (fu : Nat) (p1 : Pair) : Option (Bool) :=
  obind (d_impl_in fu p1.fA 0 3) fun x5 => bif (!x5) then some (true) else obind (d_impl_in fu p1.fB 0 3) fun x10 => some (!x10)

def d_slices_ContainsFunc_impl_Type_impl_Type (fu : Nat) (sv1 : List Typ) (f5 : Typ → Option Bool) : Option (Bool) :=
  obind (d_slices_IndexFunc_impl_Type_impl_Type fu sv1 f5) fun x14 => some (decide (x14 ≥ 0))

def d_impl_TypeOk (fu : Nat) (x1 : Typ) : Option (Bool) :=
  obind (d_impl_in fu x1.fId 0 999) fun x5 => bif x5 then obind (d_impl_isSide fu x1.fW) fun x10 => bif x10 then obind (d_impl_isSide fu x1.fH) fun x15 => bif x15 then obind (d_impl_isSide fu x1.fD) fun x20 => bif x20 then obind (d_impl_in fu x1.fTare 0 100000) fun x25 => bif x25 then obind (d_impl_in fu x1.fGram 1 100000) fun x30 => bif x30 then obind (d_impl_in fu x1.fCost 0 100000) fun x35 => some (x35) else some (false) else some (false) else some (false) else some (false) else some (false) else some (false)

def d_impl_BoundsOk_2 (fu : Nat) (t1 : Typ) : Option (Bool) :=
  obind (d_impl_TypeOk fu t1) fun x5 => some (!x5)

def d_impl_ItemOk (fu : Nat) (x1 : Item) : Option (Bool) :=
  obind (d_impl_in fu x1.fId 0 999) fun x5 => bif x5 then obind (d_impl_isSide fu x1.fW) fun x10 => bif x10 then obind (d_impl_isSide fu x1.fH) fun x15 => bif x15 then obind (d_impl_isSide fu x1.fD) fun x20 => bif x20 then obind (d_impl_in fu x1.fGram 1 100000) fun x25 => bif x25 then obind (d_impl_in fu x1.fClass 0 3) fun x30 => bif x30 then obind (d_impl_in fu x1.fCount 1 6) fun x35 => some (x35) else some (false) else some (false) else some (false) else some (false) else some (false) else some (false)

def d_impl_BoundsOk_L1_B (fu : Nat)  (r1 : Request) (k3 : Int → Int → Option (Bool)) (units93 : Int) (x94 : Int) : Option (Bool) :=
  bif (decide (x94 < ((r1.fItems.length : Int)))) then obind (ix r1.fItems x94) fun x97 => obind (d_impl_ItemOk fu x97) fun x104 => bif (!x104) then some (false) else k3 (w64 (units93 + x97.fCount)) (w64 (x94 + 1)) else some (decide (units93 ≤ 12))
def d_impl_BoundsOk_L1 (fu : Nat)  (r1 : Request) : Nat → Int → Int → Option (Bool)
  | 0 => fun _ _ => none
  | n + 1 => d_impl_BoundsOk_L1_B fu r1 (d_impl_BoundsOk_L1 fu r1 n)
theorem d_impl_BoundsOk_L1_s (fu : Nat)  (r1 : Request) (n : Nat) : d_impl_BoundsOk_L1 fu r1 (n + 1) = d_impl_BoundsOk_L1_B fu r1 (d_impl_BoundsOk_L1 fu r1 n) := rfl

def d_impl_BoundsOk_J1 (fu : Nat) (r1 : Request)  : Option (Bool) :=
  d_impl_BoundsOk_L1 fu r1 fu 0 0

def d_impl_BoundsOk_J2 (fu : Nat) (r1 : Request)  : Option (Bool) :=
  obind (d_slices_ContainsFunc_impl_Pair_impl_Pair fu r1.fPairs (fun y34 => d_impl_BoundsOk_1 fu y34)) fun x37 => bif x37 then some (false) else obind (d_impl_in fu ((r1.fTypes.length : Int)) 1 5) fun x109 => bif (!x109) then some (false) else obind (d_slices_ContainsFunc_impl_Type_impl_Type fu r1.fTypes (fun y114 => d_impl_BoundsOk_2 fu y114)) fun x117 => bif x117 then some (false) else obind (d_impl_in fu r1.fMaster 0 999) fun x122 => bif (!x122) then some (false) else bif (decide (((r1.fItems.length : Int)) > 8)) then some (false) else d_impl_BoundsOk_J1 fu r1

def d_impl_BoundsOk (fu : Nat) (r1 : Request) : Option (Bool) :=
  obind (d_impl_in fu r1.fWay 0 1) fun x128 => bif (!x128) then some (false) else obind (d_impl_PalletOk fu r1.fPallet) fun x133 => bif (!x133) then some (false) else obind (d_impl_in fu r1.fClasses 1 4) fun x138 => bif (!x138) then some (false) else bif (decide (((r1.fPairs.length : Int)) > 16)) then some (false) else d_impl_BoundsOk_J2 fu r1

theorem c_spec_l7Known (fu : Nat) {w0 : World} (all1 : List Int) (units5 : List Int) {v2 : Value} {F3 : List Nat} (hp4 : rd w0 F3 [v2] all1) {v6 : Value} {F7 : List Nat} (hp8 : rd w0 F7 [v6] units5) {r : (List Int)}
    (h : d_spec_l7Known fu all1 units5 = some r) :
    Calls Tryz.prog 162 #[v2, v6] w0 fun e w => ∃ (v0 : Value) (G0 : List Nat), e = .returned (v0) ∧ Ext [] w0 w ∧ ow w G0 [v0] r ∧ (∀ b ∈ G0, w0.heap.size ≤ b) := by
 refine enter (vs := [_, _]) func162 rfl ntmps162 rfl fun a k => ?_
 have m := St.start w0
 unfold d_spec_l7Known at h
 refine wr (pN 1 k rfl fun a k => nn (wr (s_bs (cs := []) (ps := []) te29 m k rfl rfl rfl rfl rfl rfl rfl (by decide) rfl (by exact (List.forall_mem_nil _)) fun g9 w10 e12 a k m e hb11 => ?_)))
 have hf13 := ow_bx hb11 ([] : List Int) rfl rfl rfl
 refine pN 1 k rfl fun a k => nn (wp_seq (wr (pN 1 k rfl fun a k => nn (wp_block (c_loop (fun n a w => ∃ (out117 : List Int) (v118 : Value) (F119 : List Nat) (u120 : World) (i122 : Int), K 30 [(0, v2), (1, v6), (5, v118), (6, .int .i64 i122)] a ∧ St [] w0 w [(F119, u120)] ∧ ow u120 F119 [v118] out117 ∧ d_spec_l7Known_L1 fu all1 units5 n out117 i122 = some r) ?_ ?_ fu _ _ ?_)))))
 · rintro a w ⟨_, _, _, _, _, _, _, _, h⟩
   exact nS h
 · rintro m123 a w116 ⟨out117, v118, F119, u120, i122, k, m, hf121, h⟩
   rw [d_spec_l7Known_L1_s] at h
   unfold d_spec_l7Known_L1_B at h
   refine wp_seq (wr (pN 2 k rfl fun a k => sv k rfl (r_len (α := Int) hp8 k underlying29 rfl rfl) fun a k => pN 1 k rfl fun a k => nn (cI h k rfl (fun hb124 h => ?_) fun hb124 h => ?_)))
   · refine wp_skip (nm_then ?_)
     refine c_cut (fun a w => ∃ (out146 : List Int) (v147 : Value) (F148 : List Nat) (u149 : World), K 30 [(0, v2), (1, v6), (5, v147), (6, .int .i64 i122)] a ∧ St [] w0 w [(F148, u149)] ∧ ow u149 F148 [v147] out146 ∧ d_spec_l7Known_J1 fu (d_spec_l7Known_L1 fu all1 units5 m123) i122 out146 = some r) ?_ ?_
     · rintro a w145 ⟨out146, v147, F148, u149, k, m, hf150, h⟩
       unfold d_spec_l7Known_J1 at h
       refine wp_region_lit (pN 3 k rfl fun a k => nn ?_)
       exact ⟨out146, v147, F148, u149, w64 (i122 + 1), k.keep [0, 1, 5, 6] rfl, m.sel [0] rfl (by decide), hf150, h⟩
     refine wp_block (wr (pN 2 k rfl fun a k => oE h fun x151 hx152 h => sv k rfl (r_ixa hp8 hx152 k ts29 rfl rfl rfl) fun a k => sv k rfl (r_lde1 hp8 (m.a00 (Enc.rd_lt hp8)) hx152 0 t13 k rfl rfl rfl rfl) fun a k => pN 1 k rfl fun a k => sv k rfl (r_len (α := Int) hp4 k underlying29 rfl rfl) fun a k => pN 1 k rfl fun a k => oE h fun x153 hx154 h => cE k m call136 rfl rfl rfl (c_spec_l1In fu _ _ _  hx154) fun w156 e a k m => nn (cI h k rfl (fun hb157 h => ?_) fun hb157 h => ?_)))
     · refine wp_region_lit (pN 3 k rfl fun a k => oE h fun x158 hx159 h => sv k rfl (r_ixa hp8 hx152 k ts29 rfl rfl rfl) fun a k => sv k rfl (r_lde1 hp8 (m.a00 (Enc.rd_lt hp8)) hx152 0 t13 k rfl rfl rfl rfl) fun a k => s_bs (cs := [.int .i64 x151]) (ps := [(0, .tmp 26)]) te29 m k rfl rfl rfl rfl rfl rfl rfl (by decide) rfl (by exact (List.forall_mem_cons.2 ⟨rfl, (List.forall_mem_nil _)⟩)) fun g160 w161 e163 a k m e hb162 => ?_)
       have hf164 := ow_bx hb162 ([x151] : List Int) rfl rfl rfl
       refine oE h fun x165 hx166 h => s_appF hx166 te29 rfl m 1 hf121 (News.rd (Enc.rd_agr (Enc.ow_rd hf164) (m.a 0 rfl))) rfl rfl k rfl rfl rfl rfl rfl rfl rfl fun v167 F168 w169 a k e m hf170 => pN 1 k rfl fun a k => wpList_nil (nm_block (nm_then ?_))
       exact ⟨x165, v167, F168, w169, k.keep [0, 1, 5, 6] rfl, m.sel [1] rfl (by decide), hf170, h⟩
     refine wp_skip (nm_block (nm_then ?_))
     exact ⟨out117, v118, F119, u120, k.keep [0, 1, 5, 6] rfl, m.sel [0] rfl (by decide), hf121, h⟩
   refine wp_exit (ex_then (ex_then (ex_same (nm_then ?_))))
   refine wr (pN 2 k rfl fun a k => nn (wp_ret ?_))
   cases h
   exact finR1 k rfl (RV.tmp k rfl) ⟨_, F119, rfl, m.ext, (Enc.ow_agr hf121 (m.a 0 rfl)), (m.fresh 0 rfl)⟩
 exact ⟨([] : List Int), (.slice (some ⟨g9, 0, none⟩) 0 0), [g9], w10, 0, k.keep [0, 1, 5, 6] rfl, m.sel [0] rfl (by decide), hf13, h⟩
theorem c_spec_l1Bit (fu : Nat) {w0 : World} (on1 : Bool)  {r : Int}
    (h : d_spec_l1Bit fu on1 = some r) :
    Calls Tryz.prog 97 #[.bool (on1)] w0 fun e w => e = .returned (.int .i64 r) ∧ Ext [] w0 w := by
 refine enter (vs := [_]) func97 rfl ntmps97 rfl fun a k => ?_
 have m := St.start w0
 unfold d_spec_l1Bit at h
 refine wr (pN 1 k rfl fun a k => nn (wp_seq (wr (pN 1 k rfl fun a k => nn (cI h k rfl (fun hb2 h => ?_) fun hb2 h => ?_)))))
 · refine wr (pN 1 k rfl fun a k => nn (wp_ret (rt_then ?_)))
   refine fS h k m rfl rfl
 refine wp_skip (nm_then ?_)
 refine wr (pN 1 k rfl fun a k => nn (wp_ret (fS h k m rfl rfl)))
theorem c_spec_l8Times (fu : Nat) {w0 : World} (list1 : List Int) (x5 : Int) {v2 : Value} {F3 : List Nat} (hp4 : rd w0 F3 [v2] list1) {r : Int}
    (h : d_spec_l8Times fu list1 x5 = some r) :
    Calls Tryz.prog 122 #[v2, .int .i64 x5] w0 fun e w => e = .returned (.int .i64 r) ∧ Ext [] w0 w := by
 refine enter (vs := [_, _]) func122 rfl ntmps122 rfl fun a k => ?_
 have m := St.start w0
 unfold d_spec_l8Times at h
 refine wr (pN 1 k rfl fun a k => nn (wr (pN 1 k rfl fun a k => nn (wp_seq (wr (pN 1 k rfl fun a k => nn (wp_block (c_loop (fun n a w => ∃ (n25 : Int) (i26 : Int), K 23 [(0, v2), (1, .int .i64 x5), (5, .int .i64 n25), (6, .int .i64 i26)] a ∧ St [] w0 w [] ∧ d_spec_l8Times_L1 fu list1 x5 n n25 i26 = some r) ?_ ?_ fu _ _ ?_))))))))
 · rintro a w ⟨_, _, _, _, h⟩
   exact nS h
 · rintro m27 a w24 ⟨n25, i26, k, m, h⟩
   rw [d_spec_l8Times_L1_s] at h
   unfold d_spec_l8Times_L1_B at h
   refine wp_seq (wr (pN 2 k rfl fun a k => sv k rfl (r_len (α := Int) hp4 k underlying29 rfl rfl) fun a k => pN 1 k rfl fun a k => nn (cI h k rfl (fun hb28 h => ?_) fun hb28 h => ?_)))
   · refine wp_skip (nm_then ?_)
     refine wp_seq (wp_block (wp_region_lit (pN 3 k rfl fun a k => oE h fun x29 hx30 h => sv k rfl (r_ixa hp4 hx30 k ts29 rfl rfl rfl) fun a k => sv k rfl (r_lde1 hp4 (m.a00 (Enc.rd_lt hp4)) hx30 0 t13 k rfl rfl rfl rfl) fun a k => pN 2 k rfl fun a k => oE h fun x31 hx32 h => cE k m call97 rfl rfl rfl (c_spec_l1Bit fu _  hx32) fun w34 e a k m => pN 2 k rfl fun a k => wpList_nil (nm_block (nm_then ?_)))))
     refine wp_region_lit (pN 3 k rfl fun a k => nn ?_)
     exact ⟨w64 (n25 + x31), w64 (i26 + 1), k.keep [0, 1, 5, 6] rfl, m.sel [] rfl (by decide), h⟩
   refine wp_exit (ex_then (ex_then (ex_same (nm_then ?_))))
   refine wr (pN 2 k rfl fun a k => nn (wp_ret (fS h k m rfl rfl)))
 exact ⟨0, 0, k.keep [0, 1, 5, 6] rfl, m.sel [] rfl (by decide), h⟩
theorem c_spec_IsPacking (fu : Nat) {w0 : World} (r1 : Request) (units5 : List Int) (cartons9 : List (List Int)) {cs2 : List Value} {F3 : List Nat} (hp4 : rd w0 F3 cs2 r1) {v6 : Value} {F7 : List Nat} (hp8 : rd w0 F7 [v6] units5) {v10 : Value} {F11 : List Nat} (hp12 : rd w0 F11 [v10] cartons9) {r : Bool}
    (h : d_spec_IsPacking fu r1 units5 cartons9 = some r) :
    Calls Tryz.prog 111 #[.agg cs2.toArray, v6, v10] w0 fun e w => e = .returned (.bool (r)) ∧ Ext [] w0 w := by
 refine enter (vs := [_, _, _]) func111 rfl ntmps111 rfl fun a k => ?_
 have m := St.start w0
 obtain ⟨v13, F14, v15, F16, v17, F18, rfl, rfl, hf19, hf20, hf21⟩ := hp4
 unfold d_spec_IsPacking at h
 refine wr (s_box (cs := [.int .i64 r1.fWay, .int .i64 r1.fPallet.fW, .int .i64 r1.fPallet.fD, .int .i64 r1.fPallet.fH, .int .i64 r1.fPallet.fGram, .int .i64 r1.fClasses, v13, v15, .int .i64 r1.fMaster, v17]) m k rfl rfl rfl rfl rfl rfl fun b22 w24 a k m e hb23 => pN 1 k rfl fun a k => nn (wp_seq (wr (sv k rfl (r_ldB ta40 m 0 hb23 0 k rfl rfl rfl rfl rfl rfl) fun a k => oE h fun x25 hx26 h => ?_))))
 refine cE k m call68 rfl rfl rfl (c_spec_Class fu _ (show rd _ _ [.int .i64 r1.fWay, .int .i64 r1.fPallet.fW, .int .i64 r1.fPallet.fD, .int .i64 r1.fPallet.fH, .int .i64 r1.fPallet.fGram, .int .i64 r1.fClasses, v13, v15, .int .i64 r1.fMaster, v17] (r1 : Request) from ⟨_, _, _, _, _, _, rfl, rfl, (Enc.rd_agr hf19 (m.a00 (Enc.rd_lt hf19))), (Enc.rd_agr hf20 (m.a00 (Enc.rd_lt hf20))), (Enc.rd_agr hf21 (m.a00 (Enc.rd_lt hf21)))⟩) hx26) fun w28 e a k m => pN 1 k rfl fun a k => nn (cI h k rfl (fun hb29 h => ?_) fun hb29 h => ?_)
 · refine wr (pN 1 k rfl fun a k => nn (wp_ret (rt_then ?_)))
   refine fS h k m rfl rfl
 refine wp_skip (nm_then ?_)
 refine wr (sv k rfl (r_ldB ta40 m 0 hb23 0 k rfl rfl rfl rfl rfl rfl) fun a k => oE h fun x30 hx31 h => cE k m call88 rfl rfl rfl (c_spec_MasterOf fu _ (show rd _ _ [.int .i64 r1.fWay, .int .i64 r1.fPallet.fW, .int .i64 r1.fPallet.fD, .int .i64 r1.fPallet.fH, .int .i64 r1.fPallet.fGram, .int .i64 r1.fClasses, v13, v15, .int .i64 r1.fMaster, v17] (r1 : Request) from ⟨_, _, _, _, _, _, rfl, rfl, (Enc.rd_agr hf19 (m.a00 (Enc.rd_lt hf19))), (Enc.rd_agr hf20 (m.a00 (Enc.rd_lt hf20))), (Enc.rd_agr hf21 (m.a00 (Enc.rd_lt hf21)))⟩) hx31) fun w33 e a k m => pN 3 k rfl fun a k => s_alloc (cs := [.int .i64 0, .int .i64 0, .int .i64 0, .int .i64 0, .int .i64 0, .int .i64 0, .int .i64 0]) m k zeroValue92 rfl rfl rfl rfl rfl fun b34 w36 a k m e hb35 => ?_)
 refine s_stb (cs' := [.int .i64 x30.1.fId, .int .i64 x30.1.fW, .int .i64 x30.1.fH, .int .i64 x30.1.fD, .int .i64 x30.1.fTare, .int .i64 x30.1.fGram, .int .i64 x30.1.fCost]) sizeOf92 m 0 hb35 0 k rfl rfl rfl rfl rfl rfl rfl rfl rfl rfl rfl fun w37 a k e m hb38 => pN 1 k rfl fun a k => nn (wr (sv k rfl (r_ldB ta40 m 1 hb23 0 k rfl rfl rfl rfl rfl rfl) fun a k => oE h fun x39 hx40 h => ?_))
 refine s_call k call106 rfl rfl rfl rfl rfl (c_spec_l6Units fu _ (show rd _ _ [.int .i64 r1.fWay, .int .i64 r1.fPallet.fW, .int .i64 r1.fPallet.fD, .int .i64 r1.fPallet.fH, .int .i64 r1.fPallet.fGram, .int .i64 r1.fClasses, v13, v15, .int .i64 r1.fMaster, v17] (r1 : Request) from ⟨_, _, _, _, _, _, rfl, rfl, (Enc.rd_agr hf19 (m.a00 (Enc.rd_lt hf19))), (Enc.rd_agr hf20 (m.a00 (Enc.rd_lt hf20))), (Enc.rd_agr hf21 (m.a00 (Enc.rd_lt hf21)))⟩) hx40) fun e41 w42 hR => ?_
 obtain ⟨v47, F43, rfl, e, hf44, hfr45⟩ := hR
 refine ⟨_, rfl, fun a k => ?_⟩
 have m := m.new e F43 (fun b hb => ⟨hfr45 b hb, Enc.rd_lt (Enc.ow_rd hf44) b hb⟩) (Enc.ow_nd hf44)
 refine pN 1 k rfl fun a k => nn (wr (s_bs (cs := []) (ps := []) te29 m k rfl rfl rfl rfl rfl rfl rfl (by decide) rfl (by exact (List.forall_mem_nil _)) fun g48 w49 e51 a k m e hb50 => ?_))
 have hf52 := ow_bx hb50 ([] : List Int) rfl rfl rfl
 refine pN 1 k rfl fun a k => nn (c_cut (fun a w => ∃ (flat805 : List Int) (v806 : Value) (F807 : List Nat) (u808 : World), K 97 [(1, v6), (9, v47), (10, v806)] a ∧ St [] w0 w [(F43, w42), (F807, u808)] ∧ ow u808 F807 [v806] flat805 ∧ d_spec_IsPacking_J1 fu units5 x39 flat805 = some r) ?_ ?_)
 · rintro a w804 ⟨flat805, v806, F807, u808, k, m, hf809, h⟩
   unfold d_spec_IsPacking_J1 at h
   refine wr (pN 2 k rfl fun a k => oE h fun x810 hx811 h => s_call k call162 rfl rfl rfl rfl rfl (c_spec_l7Known fu _ _ (Enc.rd_agr (Enc.ow_rd hf44) (m.a 0 rfl)) (Enc.rd_agr hp8 (m.a00 (Enc.rd_lt hp8))) hx811) fun e812 w813 hR => ?_)
   obtain ⟨v818, F814, rfl, e, hf815, hfr816⟩ := hR
   refine ⟨_, rfl, fun a k => ?_⟩
   have m := m.new e F814 (fun b hb => ⟨hfr816 b hb, Enc.rd_lt (Enc.ow_rd hf815) b hb⟩) (Enc.ow_nd hf815)
   refine pN 1 k rfl fun a k => nn (wp_seq (wr (pN 1 k rfl fun a k => sv k rfl (r_len (α := Int) (Enc.ow_rd hf815) k underlying29 rfl rfl) fun a k => pN 1 k rfl fun a k => sv k rfl (r_len (α := Int) (Enc.ow_rd hf809) k underlying29 rfl rfl) fun a k => pN 1 k rfl fun a k => nn (cI h k rfl (fun hb819 h => ?_) fun hb819 h => ?_))))
   · refine wr (pN 1 k rfl fun a k => nn (wp_ret (rt_then ?_)))
     refine fS h k m rfl rfl
   refine wp_skip (nm_then ?_)
   refine wp_seq (wr (pN 1 k rfl fun a k => nn (wp_block (c_loop (fun n a w => ∃ (i854 : Int), K 97 [(10, v806), (13, v818), (14, .int .i64 i854)] a ∧ St [] w0 w [(F807, u808), (F814, w813)] ∧ d_spec_IsPacking_L1 fu flat805 x810 n i854 = some r) ?_ ?_ fu _ _ ?_))))
   · rintro a w ⟨_, _, _, h⟩
     exact nS h
   · rintro m855 a w853 ⟨i854, k, m, h⟩
     rw [d_spec_IsPacking_L1_s] at h
     unfold d_spec_IsPacking_L1_B at h
     refine wp_seq (wr (pN 2 k rfl fun a k => sv k rfl (r_len (α := Int) (Enc.ow_rd hf809) k underlying29 rfl rfl) fun a k => pN 1 k rfl fun a k => nn (cI h k rfl (fun hb856 h => ?_) fun hb856 h => ?_)))
     · refine wp_skip (nm_then ?_)
       refine wp_seq (wp_block (wp_seq (d_go [] mixo m rfl fun w857 hMd => ?_)))
       have m := hMd
       have s := Ext.refl ([] : List Nat) w857
       refine dp k 0 rfl (by kernel_rfl) rfl s (fun _ _ _ => id) rfl fun a k => dp k 1 rfl (by kernel_rfl) rfl s (fun _ _ _ => id) rfl fun a k => dp k 2 rfl (by kernel_rfl) rfl s (fun _ _ _ => id) rfl fun a k => oE h fun x858 hx859 h => dt k 3 rfl (by kernel_rfl) rfl s (fun _ _ _ => id) (fun w s => r_ixa (Enc.ow_rd hf809) hx859 k ts29 rfl rfl rfl) fun a k => dt k 4 rfl (by kernel_rfl) rfl s (fun _ _ _ => id) (fun w s => r_lde1 (Enc.ow_rd hf809) ((hMd.step s).a 0 rfl) hx859 0 t13 k rfl rfl rfl rfl) fun a k => dp k 6 rfl (by kernel_rfl) rfl s (fun _ _ _ => id) rfl fun a k => dp k 7 rfl (by kernel_rfl) rfl s (fun _ _ _ => id) rfl fun a k => dp k 8 rfl (by kernel_rfl) rfl s (fun _ _ _ => id) rfl fun a k => oE h fun x860 hx861 h => dt k 9 rfl (by kernel_rfl) rfl s (fun _ _ _ => id) (fun w s => r_ixa (Enc.ow_rd hf809) hx859 k ts29 rfl rfl rfl) fun a k => ?_
       refine dt k 10 rfl (by kernel_rfl) rfl s (fun _ _ _ => id) (fun w s => r_lde1 (Enc.ow_rd hf809) ((hMd.step s).a 0 rfl) hx859 0 t13 k rfl rfl rfl rfl) fun a k => d_one 5 (by kernel_rfl) rfl (oE h fun x862 hx863 h => cE k m call122 rfl rfl rfl (c_spec_l8Times fu _ _ (Enc.rd_agr (Enc.ow_rd hf809) (m.a 0 rfl)) hx863) fun w865 e a k m => ?_)
       have s := s.trans e (by simp)
       refine wpList_nil ⟨s, ?_⟩
       refine d_one 11 (by kernel_rfl) rfl (oE h fun x866 hx867 h => cE k m call122 rfl rfl rfl (c_spec_l8Times fu _ _ (Enc.rd_agr (Enc.ow_rd hf815) (m.a 1 rfl)) hx867) fun w869 e a k m => ?_)
       have s := s.trans e (by simp)
       refine wpList_nil ⟨s, ?_⟩
       refine dp k 12 rfl (by kernel_rfl) rfl s (fun _ _ _ => id) rfl fun a k => d_done (by kernel_rfl) ((nm_then ?_))
       refine cI h k rfl (fun hb870 h => ?_) fun hb870 h => ?_
       · refine wr (pN 1 k rfl fun a k => nn (wp_ret (rt_block (rt_then (rt_then (rt_block (rt_then ?_)))))))
         refine fS h k m rfl rfl
       refine wp_skip (nm_block (nm_then ?_))
       refine wp_region_lit (pN 3 k rfl fun a k => nn ?_)
       exact ⟨w64 (i854 + 1), k.keep [10, 13, 14] rfl, m.sel [0, 1] rfl (by decide), h⟩
     refine wp_exit (ex_then (ex_then (ex_same (nm_then ?_))))
     refine wr (pN 1 k rfl fun a k => nn (wp_ret (fS h k m rfl rfl)))
   exact ⟨0, k.keep [10, 13, 14] rfl, m.sel [2, 0] rfl (by decide), h⟩
 refine wr (pN 1 k rfl fun a k => nn (wp_block (c_loop (fun n a w => ∃ (flat1370 : List Int) (v1371 : Value) (F1372 : List Nat) (u1373 : World) (i1375 : Int), K 97 [(1, v6), (2, v10), (3, .pointer (some (⟨b22, 0, none⟩ : Addr))), (7, .pointer (some (⟨b34, 0, none⟩ : Addr))), (9, v47), (10, v1371), (11, .int .i64 i1375)] a ∧ St [] w0 w [([b22], w24), ([b34], w37), (F43, w42), (F1372, u1373)] ∧ ow u1373 F1372 [v1371] flat1370 ∧ d_spec_IsPacking_L2 fu r1 units5 cartons9 x30 x39 n flat1370 i1375 = some r) ?_ ?_ fu _ _ ?_)))
 · rintro a w ⟨_, _, _, _, _, _, _, _, h⟩
   exact nS h
 · rintro m1376 a w1369 ⟨flat1370, v1371, F1372, u1373, i1375, k, m, hf1374, h⟩
   rw [d_spec_IsPacking_L2_s] at h
   unfold d_spec_IsPacking_L2_B at h
   refine wp_seq (wr (pN 2 k rfl fun a k => sv k rfl (r_len (α := List Int) hp12 k underlying47 rfl rfl) fun a k => pN 1 k rfl fun a k => nn (cI h k rfl (fun hb1377 h => ?_) fun hb1377 h => ?_)))
   · refine wp_skip (nm_then ?_)
     refine c_cut (fun a w => ∃ (flat1498 : List Int) (v1499 : Value) (F1500 : List Nat) (u1501 : World), K 97 [(1, v6), (2, v10), (3, .pointer (some (⟨b22, 0, none⟩ : Addr))), (7, .pointer (some (⟨b34, 0, none⟩ : Addr))), (9, v47), (10, v1499), (11, .int .i64 i1375)] a ∧ St [] w0 w [([b22], w24), ([b34], w37), (F43, w42), (F1500, u1501)] ∧ ow u1501 F1500 [v1499] flat1498 ∧ d_spec_IsPacking_J2 fu (d_spec_IsPacking_L2 fu r1 units5 cartons9 x30 x39 m1376) i1375 flat1498 = some r) ?_ ?_
     · rintro a w1497 ⟨flat1498, v1499, F1500, u1501, k, m, hf1502, h⟩
       unfold d_spec_IsPacking_J2 at h
       refine wp_region_lit (pN 3 k rfl fun a k => nn ?_)
       exact ⟨flat1498, v1499, F1500, u1501, w64 (i1375 + 1), k.keep [1, 2, 3, 7, 9, 10, 11] rfl, m.sel [0, 1, 2, 3] rfl (by decide), hf1502, h⟩
     refine wp_block (c_cut (fun a w => ∃ (l1539 : L7) (b1536 : Nat) (u1537 : World), K 97 [(1, v6), (2, v10), (3, .pointer (some (⟨b22, 0, none⟩ : Addr))), (7, .pointer (some (⟨b34, 0, none⟩ : Addr))), (9, v47), (10, v1371), (11, .int .i64 i1375), (12, .pointer (some (⟨b1536, 0, none⟩ : Addr)))] a ∧ St [] w0 w [([b22], w24), ([b34], w37), (F43, w42), (F1372, u1373), ([b1536], u1537)] ∧ bx u1537 b1536 [.int .i64 l1539.fvol, .int .i64 l1539.fgram] 163 ∧ d_spec_IsPacking_J4 fu (d_spec_IsPacking_L2 fu r1 units5 cartons9 x30 x39 m1376) cartons9 x30 flat1370 i1375 l1539 = some r) ?_ ?_)
     · rintro a w1535 ⟨l1539, b1536, u1537, k, m, hb1538, h⟩
       unfold d_spec_IsPacking_J4 at h
       refine c_cut (fun a w => K 97 [(1, v6), (2, v10), (3, .pointer (some (⟨b22, 0, none⟩ : Addr))), (7, .pointer (some (⟨b34, 0, none⟩ : Addr))), (9, v47), (10, v1371), (11, .int .i64 i1375)] a ∧ St [] w0 w [([b22], w24), ([b34], w37), (F43, w42), (F1372, u1373)] ∧ d_spec_IsPacking_J3 fu (d_spec_IsPacking_L2 fu r1 units5 cartons9 x30 x39 m1376) cartons9 flat1370 i1375 = some r) ?_ ?_
       · rintro a w1557 ⟨k, m, h⟩
         unfold d_spec_IsPacking_J3 at h
         refine wp_region_lit (pN 3 k rfl fun a k => oE h fun x1558 hx1559 h => sv k rfl (r_ixa hp12 hx1559 k ts47 rfl rfl rfl) fun a k => ?_)
         obtain ⟨G1560, cs1561, hG1562, hr1563, hp1564, hb1565⟩ := rd_get hp12 (ix_some hx1559).2.2
         obtain ⟨v1566, rfl⟩ : ∃ v, cs1561 = [v] := by obtain ⟨_, _, hq, _⟩ := hr1563; exact ⟨_, hq⟩
         refine sv k rfl (r_ld1 t129 (hp1564.agr (m.a00 (Enc.rd_lt hp12)) hb1565) k rfl rfl) fun a k => oE h fun x1567 hx1568 h => s_appF hx1568 te29 rfl m 3 hf1374 (News.rd (Enc.rd_agr hr1563 (m.a00 (Enc.rd_lt hr1563)))) rfl rfl k rfl rfl rfl rfl rfl rfl rfl fun v1569 F1570 w1571 a k e m hf1572 => pN 1 k rfl fun a k => wpList_nil (nm_block (nm_then ?_))
         exact ⟨x1567, v1569, F1570, w1571, k.keep [1, 2, 3, 7, 9, 10, 11] rfl, m.sel [0, 1, 2, 3] rfl (by decide), hf1572, h⟩
       refine wp_seq (d_go [] mixo m rfl fun w1573 hMd => ?_)
       have m := hMd
       have s := Ext.refl ([] : List Nat) w1573
       refine dp k 0 rfl (by kernel_rfl) rfl s (fun _ _ _ => id) rfl fun a k => dp k 1 rfl (by kernel_rfl) rfl s (fun _ _ _ => id) rfl fun a k => oE h fun x1574 hx1575 h => dt k 2 rfl (by kernel_rfl) rfl s (fun _ _ _ => id) (fun w s => r_ixa hp12 hx1575 k ts47 rfl rfl rfl) fun a k => ?_
       obtain ⟨G1576, cs1577, hG1578, hr1579, hp1580, hb1581⟩ := rd_get hp12 (ix_some hx1575).2.2
       obtain ⟨v1582, rfl⟩ : ∃ v, cs1577 = [v] := by obtain ⟨_, _, hq, _⟩ := hr1579; exact ⟨_, hq⟩
       refine dt k 3 rfl (by kernel_rfl) rfl s (fun _ _ _ => id) (fun w s => r_ld1 t129 (hp1580.agr ((hMd.step s).a00 (Enc.rd_lt hp12)) hb1581) k rfl rfl) fun a k => dt k 4 rfl (by kernel_rfl) rfl s (fun _ _ _ => id) (fun w s => r_len (α := Int) hr1579 k underlying29 rfl rfl) fun a k => dp k 5 rfl (by kernel_rfl) rfl s (fun _ _ _ => id) rfl fun a k => dp k 6 rfl (by kernel_rfl) rfl s (fun _ _ _ => id) rfl fun a k => bsplit (((x1574.length : Int)) == 0) (fun hb1583 => ?_) (fun hb1583 => ?_)
       · have h := bif_t hb1583 h
         refine rB k 45 rfl hb1583 fun k => ds k 7 rfl (by kernel_rfl) rfl s (fun _ _ _ => id) fun a k => ds k 8 rfl (by kernel_rfl) rfl s (fun _ _ _ => id) fun a k => ds k 9 rfl (by kernel_rfl) rfl s (fun _ _ _ => id) fun a k => ds k 10 rfl (by kernel_rfl) rfl s (fun _ _ _ => id) fun a k => ds k 11 rfl (by kernel_rfl) rfl s (fun _ _ _ => id) fun a k => ds k 12 rfl (by kernel_rfl) rfl s (fun _ _ _ => id) fun a k => ds k 13 rfl (by kernel_rfl) rfl s (fun _ _ _ => id) fun a k => ds k 14 rfl (by kernel_rfl) rfl s (fun _ _ _ => id) fun a k => ds k 15 rfl (by kernel_rfl) rfl s (fun _ _ _ => id) fun a k => ds k 16 rfl (by kernel_rfl) rfl s (fun _ _ _ => id) fun a k => dp k 17 rfl (by kernel_rfl) rfl s (fun _ _ _ => id) rfl fun a k => dp k 18 rfl (by kernel_rfl) rfl s (fun _ _ _ => id) rfl fun a k => ?_
         refine ds k 19 rfl (by kernel_rfl) rfl s (fun _ _ _ => id) fun a k => ds k 20 rfl (by kernel_rfl) rfl s (fun _ _ _ => id) fun a k => ds k 21 rfl (by kernel_rfl) rfl s (fun _ _ _ => id) fun a k => ds k 22 rfl (by kernel_rfl) rfl s (fun _ _ _ => id) fun a k => ds k 23 rfl (by kernel_rfl) rfl s (fun _ _ _ => id) fun a k => dp k 24 rfl (by kernel_rfl) rfl s (fun _ _ _ => id) rfl fun a k => d_done (by kernel_rfl) ?_
         have k := k.keep [1, 2, 3, 7, 9, 10, 11, 63] rfl
         refine (nm_then ?_)
         refine wp_cond_true (k.ev rfl) (wr (pN 1 k rfl fun a k => nn (wp_ret (rt_then (rt_block (rt_then (rt_then (rt_block (rt_then ?_)))))))))
         refine fS h k m rfl rfl
       have h := bif_f hb1583 h
       refine rB k 45 rfl hb1583 fun k => dt k 7 rfl (by kernel_rfl) rfl s (fun _ _ _ => id) (fun w s => r_fa fa163_0 k rfl rfl) fun a k => dt k 8 rfl (by kernel_rfl) rfl s (fun _ _ _ => id) (fun w s => r_ld1 t13 (r := []) (hb1538.at ((hMd.step s).a 4 rfl) 0 1 rfl rfl rfl) k rfl rfl) fun a k => dt k 9 rfl (by kernel_rfl) rfl s (fun _ _ _ => id) (fun w s => r_fa fa92_1 k rfl rfl) fun a k => dt k 10 rfl (by kernel_rfl) rfl s (fun _ _ _ => id) (fun w s => r_ld1 t13 (r := []) (hb38.at ((hMd.step s).a 1 rfl) 1 1 rfl rfl rfl) k rfl rfl) fun a k => dt k 11 rfl (by kernel_rfl) rfl s (fun _ _ _ => id) (fun w s => r_fa fa92_2 k rfl rfl) fun a k => dt k 12 rfl (by kernel_rfl) rfl s (fun _ _ _ => id) (fun w s => r_ld1 t13 (r := []) (hb38.at ((hMd.step s).a 1 rfl) 2 1 rfl rfl rfl) k rfl rfl) fun a k => ?_
       refine dt k 13 rfl (by kernel_rfl) rfl s (fun _ _ _ => id) (fun w s => r_fa fa92_3 k rfl rfl) fun a k => dt k 14 rfl (by kernel_rfl) rfl s (fun _ _ _ => id) (fun w s => r_ld1 t13 (r := []) (hb38.at ((hMd.step s).a 1 rfl) 3 1 rfl rfl rfl) k rfl rfl) fun a k => d_one 15 (by kernel_rfl) rfl (oE h fun x1584 hx1585 h => cE k m call70 rfl rfl rfl (c_spec_Volume fu _ _ _  hx1585) fun w1587 e a k m => ?_)
       have s := s.trans e (by simp)
       refine wpList_nil ⟨s, ?_⟩
       refine dp k 16 rfl (by kernel_rfl) rfl s (fun _ _ _ => id) rfl fun a k => dp k 17 rfl (by kernel_rfl) rfl s (fun _ _ _ => id) rfl fun a k => dp k 18 rfl (by kernel_rfl) rfl s (fun _ _ _ => id) rfl fun a k => bsplit (decide (l1539.fvol > x1584)) (fun hb1588 => ?_) (fun hb1588 => ?_)
       · have h := bif_t hb1588 h
         refine rB k 57 rfl hb1588 fun k => ds k 19 rfl (by kernel_rfl) rfl s (fun _ _ _ => id) fun a k => ds k 20 rfl (by kernel_rfl) rfl s (fun _ _ _ => id) fun a k => ds k 21 rfl (by kernel_rfl) rfl s (fun _ _ _ => id) fun a k => ds k 22 rfl (by kernel_rfl) rfl s (fun _ _ _ => id) fun a k => ds k 23 rfl (by kernel_rfl) rfl s (fun _ _ _ => id) fun a k => dp k 24 rfl (by kernel_rfl) rfl s (fun _ _ _ => id) rfl fun a k => d_done (by kernel_rfl) ?_
         have k := k.keep [1, 2, 3, 7, 9, 10, 11, 63] rfl
         refine (nm_then ?_)
         refine wp_cond_true (k.ev rfl) (wr (pN 1 k rfl fun a k => nn (wp_ret (rt_then (rt_block (rt_then (rt_then (rt_block (rt_then ?_)))))))))
         refine fS h k m rfl rfl
       have h := bif_f hb1588 h
       refine rB k 57 rfl hb1588 fun k => dt k 19 rfl (by kernel_rfl) rfl s (fun _ _ _ => id) (fun w s => r_fa fa163_1 k rfl rfl) fun a k => dt k 20 rfl (by kernel_rfl) rfl s (fun _ _ _ => id) (fun w s => r_ld1 t13 (r := []) (hb1538.at ((hMd.step s).a 4 rfl) 1 1 rfl rfl rfl) k rfl rfl) fun a k => dt k 21 rfl (by kernel_rfl) rfl s (fun _ _ _ => id) (fun w s => r_fa fa92_5 k rfl rfl) fun a k => dt k 22 rfl (by kernel_rfl) rfl s (fun _ _ _ => id) (fun w s => r_ld1 t13 (r := []) (hb38.at ((hMd.step s).a 1 rfl) 5 1 rfl rfl rfl) k rfl rfl) fun a k => dp k 23 rfl (by kernel_rfl) rfl s (fun _ _ _ => id) rfl fun a k => dp k 24 rfl (by kernel_rfl) rfl s (fun _ _ _ => id) rfl fun a k => d_done (by kernel_rfl) ?_
       have k := k.keep [1, 2, 3, 7, 9, 10, 11, 63] rfl
       refine (nm_then ?_)
       refine cI h k rfl (fun hb1589 h => ?_) fun hb1589 h => ?_
       · refine wr (pN 1 k rfl fun a k => nn (wp_ret (rt_then (rt_block (rt_then (rt_then (rt_block (rt_then ?_))))))))
         refine fS h k m rfl rfl
       refine wp_skip (nm_then ?_)
       exact ⟨k.keep [1, 2, 3, 7, 9, 10, 11] rfl, m.sel [0, 1, 2, 3] rfl (by decide), h⟩
     refine d_go [] mixo m rfl fun w1590 hMd => ?_
     have m := hMd
     have s := Ext.refl ([] : List Nat) w1590
     refine dt k 0 rfl (by kernel_rfl) rfl s (fun _ _ _ => id) (fun w s => r_ldA ta40 (hb23.at ((hMd.step s).a 0 rfl) 0 10 rfl rfl rfl) rfl k rfl rfl) fun a k => dp k 1 rfl (by kernel_rfl) rfl s (fun _ _ _ => id) rfl fun a k => dp k 2 rfl (by kernel_rfl) rfl s (fun _ _ _ => id) rfl fun a k => dp k 3 rfl (by kernel_rfl) rfl s (fun _ _ _ => id) rfl fun a k => oE h fun x1591 hx1592 h => dt k 4 rfl (by kernel_rfl) rfl s (fun _ _ _ => id) (fun w s => r_ixa hp12 hx1592 k ts47 rfl rfl rfl) fun a k => ?_
     obtain ⟨G1593, cs1594, hG1595, hr1596, hp1597, hb1598⟩ := rd_get hp12 (ix_some hx1592).2.2
     obtain ⟨v1599, rfl⟩ : ∃ v, cs1594 = [v] := by obtain ⟨_, _, hq, _⟩ := hr1596; exact ⟨_, hq⟩
     refine dt k 5 rfl (by kernel_rfl) rfl s (fun _ _ _ => id) (fun w s => r_ld1 t129 (hp1597.agr ((hMd.step s).a00 (Enc.rd_lt hp12)) hb1598) k rfl rfl) fun a k => d_two 6 7 (by kernel_rfl) rfl rfl ?_ ?_ 
     · refine oE h fun x1600 hx1601 h => cE k m call156 rfl rfl rfl (c_spec_l7Of fu _ _ _ (show rd _ _ [.int .i64 r1.fWay, .int .i64 r1.fPallet.fW, .int .i64 r1.fPallet.fD, .int .i64 r1.fPallet.fH, .int .i64 r1.fPallet.fGram, .int .i64 r1.fClasses, v13, v15, .int .i64 r1.fMaster, v17] (r1 : Request) from ⟨_, _, _, _, _, _, rfl, rfl, (Enc.rd_agr hf19 (m.a00 (Enc.rd_lt hf19))), (Enc.rd_agr hf20 (m.a00 (Enc.rd_lt hf20))), (Enc.rd_agr hf21 (m.a00 (Enc.rd_lt hf21)))⟩) (Enc.rd_agr (Enc.ow_rd hf44) (m.a 2 rfl)) (Enc.rd_agr hr1596 (m.a00 (Enc.rd_lt hr1596))) hx1601) fun w1603 e a k m => ?_
       have s := s.trans e (by simp)
       refine wpList_nil ⟨s, ?_⟩
       refine d_one 7 (by kernel_rfl) rfl (s_allocN (cs := [.int .i64 0, .int .i64 0]) m k zeroValue163 rfl rfl rfl rfl rfl fun b1604 w1606 a k m e hb1605 hbn1607 => ?_)
       have hlo1608 := lo1 (Nat.le_trans s.size hbn1607)
       have s := s.trans e (by simp)
       refine wpList_nil ⟨s, ?_⟩
       refine d_one 8 (by kernel_rfl) rfl (s_stb (cs' := [.int .i64 x1600.fvol, .int .i64 x1600.fgram]) sizeOf163 m 0 hb1605 0 k rfl rfl rfl rfl rfl rfl rfl rfl rfl rfl rfl fun w1609 a k e m hb1610 => ?_)
       have s := s.trans e (fun y hy => Or.inr (hlo1608 y hy))
       refine wpList_nil ⟨s, ?_⟩
       refine d_done (by kernel_rfl) ((nm_then ?_))
       exact ⟨x1600, b1604, w1609, k.keep [1, 2, 3, 7, 9, 10, 11, 12] rfl, m.sel [1, 2, 3, 4, 0] rfl (by decide), hb1610, h⟩
     refine s_allocN (cs := [.int .i64 0, .int .i64 0]) m k zeroValue163 rfl rfl rfl rfl rfl fun b1611 w1613 a k m e hb1612 hbn1614 => ?_
     have hlo1615 := lo1 (Nat.le_trans s.size hbn1614)
     have s := s.trans e (by simp)
     refine wpList_nil ⟨s, ?_⟩
     refine d_one 6 (by kernel_rfl) rfl (oE h fun x1616 hx1617 h => cE k m call156 rfl rfl rfl (c_spec_l7Of fu _ _ _ (show rd _ _ [.int .i64 r1.fWay, .int .i64 r1.fPallet.fW, .int .i64 r1.fPallet.fD, .int .i64 r1.fPallet.fH, .int .i64 r1.fPallet.fGram, .int .i64 r1.fClasses, v13, v15, .int .i64 r1.fMaster, v17] (r1 : Request) from ⟨_, _, _, _, _, _, rfl, rfl, (Enc.rd_agr hf19 (m.a00 (Enc.rd_lt hf19))), (Enc.rd_agr hf20 (m.a00 (Enc.rd_lt hf20))), (Enc.rd_agr hf21 (m.a00 (Enc.rd_lt hf21)))⟩) (Enc.rd_agr (Enc.ow_rd hf44) (m.a 3 rfl)) (Enc.rd_agr hr1596 (m.a00 (Enc.rd_lt hr1596))) hx1617) fun w1619 e a k m => ?_)
     have s := s.trans e (by simp)
     refine wpList_nil ⟨s, ?_⟩
     refine d_one 8 (by kernel_rfl) rfl (s_stb (cs' := [.int .i64 x1616.fvol, .int .i64 x1616.fgram]) sizeOf163 m 0 hb1612 0 k rfl rfl rfl rfl rfl rfl rfl rfl rfl rfl rfl fun w1620 a k e m hb1621 => ?_)
     have s := s.trans e (fun y hy => Or.inr (hlo1615 y hy))
     refine wpList_nil ⟨s, ?_⟩
     refine d_done (by kernel_rfl) ((nm_then ?_))
     exact ⟨x1616, b1611, w1620, k.keep [1, 2, 3, 7, 9, 10, 11, 12] rfl, m.sel [1, 2, 3, 4, 0] rfl (by decide), hb1621, h⟩
   refine wp_exit (ex_then (ex_then (ex_same (nm_then ?_))))
   exact ⟨flat1370, v1371, F1372, u1373, k.keep [1, 9, 10] rfl, m.sel [2, 3] rfl (by decide), hf1374, h⟩
 exact ⟨([] : List Int), (.slice (some ⟨g48, 0, none⟩) 0 0), [g48], w49, 0, k.keep [1, 2, 3, 7, 9, 10, 11] rfl, m.sel [3, 2, 1, 0] rfl (by decide), hf52, h⟩
theorem c_spec_IsRival (fu : Nat) {w0 : World} (r1 : Request) (cartons5 : List (List Int)) {cs2 : List Value} {F3 : List Nat} (hp4 : rd w0 F3 cs2 r1) {v6 : Value} {F7 : List Nat} (hp8 : rd w0 F7 [v6] cartons5) {r : Bool}
    (h : d_spec_IsRival fu r1 cartons5 = some r) :
    Calls Tryz.prog 51 #[.agg cs2.toArray, v6] w0 fun e w => e = .returned (.bool (r)) ∧ Ext [] w0 w := by
 refine enter (vs := [_, _]) func51 rfl ntmps51 rfl fun a k => ?_
 have m := St.start w0
 obtain ⟨v9, F10, v11, F12, v13, F14, rfl, rfl, hf15, hf16, hf17⟩ := hp4
 unfold d_spec_IsRival at h
 refine wr (s_box (cs := [.int .i64 r1.fWay, .int .i64 r1.fPallet.fW, .int .i64 r1.fPallet.fD, .int .i64 r1.fPallet.fH, .int .i64 r1.fPallet.fGram, .int .i64 r1.fClasses, v9, v11, .int .i64 r1.fMaster, v13]) m k rfl rfl rfl rfl rfl rfl fun b18 w20 a k m e hb19 => pN 1 k rfl fun a k => nn (wr (sv k rfl (r_ldB ta40 m 0 hb19 0 k rfl rfl rfl rfl rfl rfl) fun a k => oE h fun x21 hx22 h => ?_)))
 refine s_call k call83 rfl rfl rfl rfl rfl (c_spec_Units fu _ (show rd _ _ [.int .i64 r1.fWay, .int .i64 r1.fPallet.fW, .int .i64 r1.fPallet.fD, .int .i64 r1.fPallet.fH, .int .i64 r1.fPallet.fGram, .int .i64 r1.fClasses, v9, v11, .int .i64 r1.fMaster, v13] (r1 : Request) from ⟨_, _, _, _, _, _, rfl, rfl, (Enc.rd_agr hf15 (m.a00 (Enc.rd_lt hf15))), (Enc.rd_agr hf16 (m.a00 (Enc.rd_lt hf16))), (Enc.rd_agr hf17 (m.a00 (Enc.rd_lt hf17)))⟩) hx22) fun e23 w24 hR => ?_
 obtain ⟨v29, F25, rfl, e, hf26, hfr27⟩ := hR
 refine ⟨_, rfl, fun a k => ?_⟩
 have m := m.new e F25 (fun b hb => ⟨hfr27 b hb, Enc.rd_lt (Enc.ow_rd hf26) b hb⟩) (Enc.ow_nd hf26)
 refine pN 1 k rfl fun a k => nn (wp_seq (wp_seq (d_go [] mixo m rfl fun w30 hMd => ?_)))
 have m := hMd
 have s := Ext.refl ([] : List Nat) w30
 refine dt k 0 rfl (by kernel_rfl) rfl s (fun _ _ _ => id) (fun w s => r_ldA ta40 (hb19.at ((hMd.step s).a 1 rfl) 0 10 rfl rfl rfl) rfl k rfl rfl) fun a k => dp k 1 rfl (by kernel_rfl) rfl s (fun _ _ _ => id) rfl fun a k => dt k 2 rfl (by kernel_rfl) rfl s (fun _ _ _ => id) (fun w s => r_len (α := Int) (Enc.ow_rd hf26) k underlying29 rfl rfl) fun a k => dp k 4 rfl (by kernel_rfl) rfl s (fun _ _ _ => id) rfl fun a k => d_one 3 (by kernel_rfl) rfl (oE h fun x31 hx32 h => s_call k call112 rfl rfl rfl rfl rfl (c_spec_l1Places fu _  hx32) fun e33 w34 hR => ?_)
 obtain ⟨v39, F35, rfl, e, hf36, hfr37⟩ := hR
 refine ⟨_, rfl, fun a k => ?_⟩
 have m := m.new e F35 (fun b hb => ⟨hfr37 b hb, Enc.rd_lt (Enc.ow_rd hf36) b hb⟩) (Enc.ow_nd hf36)
 have hlo40 := fun (y : Nat) (hy : y ∈ F35) => Nat.le_trans s.size (hfr37 y hy)
 have s := s.trans e (by simp)
 refine wpList_nil ⟨s, ?_⟩
 refine d_one 5 (by kernel_rfl) rfl (oE h fun x41 hx42 h => cE k m call111 rfl rfl rfl (c_spec_IsPacking fu _ _ _ (show rd _ _ [.int .i64 r1.fWay, .int .i64 r1.fPallet.fW, .int .i64 r1.fPallet.fD, .int .i64 r1.fPallet.fH, .int .i64 r1.fPallet.fGram, .int .i64 r1.fClasses, v9, v11, .int .i64 r1.fMaster, v13] (r1 : Request) from ⟨_, _, _, _, _, _, rfl, rfl, (Enc.rd_agr hf15 (m.a00 (Enc.rd_lt hf15))), (Enc.rd_agr hf16 (m.a00 (Enc.rd_lt hf16))), (Enc.rd_agr hf17 (m.a00 (Enc.rd_lt hf17)))⟩) (Enc.rd_agr (Enc.ow_rd hf36) (m.a 0 rfl)) (Enc.rd_agr hp8 (m.a00 (Enc.rd_lt hp8))) hx42) fun w44 e a k m => ?_)
 have s := s.trans e (by simp)
 refine wpList_nil ⟨s, ?_⟩
 refine dp k 6 rfl (by kernel_rfl) rfl s (fun _ _ _ => id) rfl fun a k => d_done (by kernel_rfl) ((nm_then ?_))
 refine cI h k rfl (fun hb45 h => ?_) fun hb45 h => ?_
 · refine wr (pN 1 k rfl fun a k => nn (wp_ret (rt_then ?_)))
   refine fS h k m rfl rfl
 refine wp_skip (nm_then ?_)
 refine wp_seq (wr (pN 1 k rfl fun a k => nn (wp_block (c_loop (fun n a w => ∃ (i20874 : Int), K 80 [(1, v6), (2, .pointer (some (⟨b18, 0, none⟩ : Addr))), (5, v29), (6, .int .i64 i20874)] a ∧ St [] w0 w [([b18], w20), (F25, w24)] ∧ d_spec_IsRival_L3 fu r1 cartons5 x21 n i20874 = some r) ?_ ?_ fu _ _ ?_))))
 · rintro a w ⟨_, _, _, h⟩
   exact nS h
 · rintro m20875 a w20873 ⟨i20874, k, m, h⟩
   rw [d_spec_IsRival_L3_s] at h
   unfold d_spec_IsRival_L3_B at h
   refine wp_seq (wr (pN 2 k rfl fun a k => sv k rfl (r_len (α := List Int) hp8 k underlying47 rfl rfl) fun a k => pN 1 k rfl fun a k => nn (cI h k rfl (fun hb20876 h => ?_) fun hb20876 h => ?_)))
   · refine wp_skip (nm_then ?_)
     refine c_cut (fun a w => K 80 [(1, v6), (2, .pointer (some (⟨b18, 0, none⟩ : Addr))), (5, v29), (6, .int .i64 i20874)] a ∧ St [] w0 w [([b18], w20), (F25, w24)] ∧ d_spec_IsRival_J1 fu (d_spec_IsRival_L3 fu r1 cartons5 x21 m20875) i20874 = some r) ?_ ?_
     · rintro a w26082 ⟨k, m, h⟩
       unfold d_spec_IsRival_J1 at h
       refine wp_region_lit (pN 3 k rfl fun a k => nn ?_)
       exact ⟨w64 (i20874 + 1), k.keep [1, 2, 5, 6] rfl, m.sel [0, 1] rfl (by decide), h⟩
     refine wp_block (wr (pN 1 k rfl fun a k => nn (wp_block (c_loop (fun n a w => ∃ (a29553 : Int), K 80 [(1, v6), (2, .pointer (some (⟨b18, 0, none⟩ : Addr))), (5, v29), (6, .int .i64 i20874), (7, .int .i64 a29553)] a ∧ St [] w0 w [([b18], w20), (F25, w24)] ∧ d_spec_IsRival_L2 fu (d_spec_IsRival_L3 fu r1 cartons5 x21 m20875) r1 cartons5 x21 i20874 n a29553 = some r) ?_ ?_ fu _ _ ?_))))
     · rintro a w ⟨_, _, _, h⟩
       exact nS h
     · rintro m29554 a w29552 ⟨a29553, k, m, h⟩
       rw [d_spec_IsRival_L2_s] at h
       unfold d_spec_IsRival_L2_B at h
       refine wp_seq (wr (pN 3 k rfl fun a k => oE h fun x29555 hx29556 h => sv k rfl (r_ixa hp8 hx29556 k ts47 rfl rfl rfl) fun a k => ?_))
       obtain ⟨G29557, cs29558, hG29559, hr29560, hp29561, hb29562⟩ := rd_get hp8 (ix_some hx29556).2.2
       obtain ⟨v29563, rfl⟩ : ∃ v, cs29558 = [v] := by obtain ⟨_, _, hq, _⟩ := hr29560; exact ⟨_, hq⟩
       refine sv k rfl (r_ld1 t129 (hp29561.agr (m.a00 (Enc.rd_lt hp8)) hb29562) k rfl rfl) fun a k => sv k rfl (r_len (α := Int) hr29560 k underlying29 rfl rfl) fun a k => pN 1 k rfl fun a k => nn (cI h k rfl (fun hb29564 h => ?_) fun hb29564 h => ?_)
       · refine wp_skip (nm_then ?_)
         refine c_cut (fun a w => K 80 [(1, v6), (2, .pointer (some (⟨b18, 0, none⟩ : Addr))), (5, v29), (6, .int .i64 i20874), (7, .int .i64 a29553)] a ∧ St [] w0 w [([b18], w20), (F25, w24)] ∧ d_spec_IsRival_J2 fu (d_spec_IsRival_L2 fu (d_spec_IsRival_L3 fu r1 cartons5 x21 m20875) r1 cartons5 x21 i20874 m29554) a29553 = some r) ?_ ?_
         · rintro a w30426 ⟨k, m, h⟩
           unfold d_spec_IsRival_J2 at h
           refine wp_region_lit (pN 3 k rfl fun a k => nn ?_)
           exact ⟨w64 (a29553 + 1), k.keep [1, 2, 5, 6, 7] rfl, m.sel [0, 1] rfl (by decide), h⟩
         refine wp_block (wr (pN 1 k rfl fun a k => nn (wp_block (c_loop (fun n a w => ∃ (b31001 : Int), K 80 [(1, v6), (2, .pointer (some (⟨b18, 0, none⟩ : Addr))), (5, v29), (6, .int .i64 i20874), (7, .int .i64 a29553), (8, .int .i64 b31001)] a ∧ St [] w0 w [([b18], w20), (F25, w24)] ∧ d_spec_IsRival_L1 fu (d_spec_IsRival_L2 fu (d_spec_IsRival_L3 fu r1 cartons5 x21 m20875) r1 cartons5 x21 i20874 m29554) r1 cartons5 x21 i20874 a29553 n b31001 = some r) ?_ ?_ fu _ _ ?_))))
         · rintro a w ⟨_, _, _, h⟩
           exact nS h
         · rintro m31002 a w31000 ⟨b31001, k, m, h⟩
           rw [d_spec_IsRival_L1_s] at h
           unfold d_spec_IsRival_L1_B at h
           refine wp_seq (wr (pN 3 k rfl fun a k => oE h fun x31003 hx31004 h => sv k rfl (r_ixa hp8 hx31004 k ts47 rfl rfl rfl) fun a k => ?_))
           obtain ⟨G31005, cs31006, hG31007, hr31008, hp31009, hb31010⟩ := rd_get hp8 (ix_some hx31004).2.2
           obtain ⟨v31011, rfl⟩ : ∃ v, cs31006 = [v] := by obtain ⟨_, _, hq, _⟩ := hr31008; exact ⟨_, hq⟩
           refine sv k rfl (r_ld1 t129 (hp31009.agr (m.a00 (Enc.rd_lt hp8)) hb31010) k rfl rfl) fun a k => sv k rfl (r_len (α := Int) hr31008 k underlying29 rfl rfl) fun a k => pN 1 k rfl fun a k => nn (cI h k rfl (fun hb31012 h => ?_) fun hb31012 h => ?_)
           · refine wp_skip (nm_then ?_)
             refine c_cut (fun a w => K 80 [(1, v6), (2, .pointer (some (⟨b18, 0, none⟩ : Addr))), (5, v29), (6, .int .i64 i20874), (7, .int .i64 a29553), (8, .int .i64 b31001)] a ∧ St [] w0 w [([b18], w20), (F25, w24)] ∧ d_spec_IsRival_J3 fu (d_spec_IsRival_L1 fu (d_spec_IsRival_L2 fu (d_spec_IsRival_L3 fu r1 cartons5 x21 m20875) r1 cartons5 x21 i20874 m29554) r1 cartons5 x21 i20874 a29553 m31002) b31001 = some r) ?_ ?_
             · rintro a w31150 ⟨k, m, h⟩
               unfold d_spec_IsRival_J3 at h
               refine wp_region_lit (pN 3 k rfl fun a k => nn ?_)
               exact ⟨w64 (b31001 + 1), k.keep [1, 2, 5, 6, 7, 8] rfl, m.sel [0, 1] rfl (by decide), h⟩
             refine wp_block (c_cut (fun a w => ∃ (i31182 : Item) (b31179 : Nat) (u31180 : World), K 80 [(1, v6), (2, .pointer (some (⟨b18, 0, none⟩ : Addr))), (5, v29), (6, .int .i64 i20874), (7, .int .i64 a29553), (8, .int .i64 b31001), (9, .pointer (some (⟨b31179, 0, none⟩ : Addr)))] a ∧ St [] w0 w [([b18], w20), (F25, w24), ([b31179], u31180)] ∧ bx u31180 b31179 [.int .i64 i31182.fId, .int .i64 i31182.fW, .int .i64 i31182.fH, .int .i64 i31182.fD, .int .i64 i31182.fGram, .int .i64 i31182.fClass, .int .i64 i31182.fCount] 120 ∧ d_spec_IsRival_J5 fu (d_spec_IsRival_L1 fu (d_spec_IsRival_L2 fu (d_spec_IsRival_L3 fu r1 cartons5 x21 m20875) r1 cartons5 x21 i20874 m29554) r1 cartons5 x21 i20874 a29553 m31002) r1 cartons5 x21 i20874 b31001 i31182 = some r) ?_ ?_)
             · rintro a w31178 ⟨i31182, b31179, u31180, k, m, hb31181, h⟩
               unfold d_spec_IsRival_J5 at h
               refine c_cut (fun a w => ∃ (i31221 : Item) (b31218 : Nat) (u31219 : World), K 80 [(1, v6), (2, .pointer (some (⟨b18, 0, none⟩ : Addr))), (5, v29), (6, .int .i64 i20874), (7, .int .i64 a29553), (8, .int .i64 b31001), (9, .pointer (some (⟨b31179, 0, none⟩ : Addr))), (11, .pointer (some (⟨b31218, 0, none⟩ : Addr)))] a ∧ St [] w0 w [([b18], w20), ([b31179], u31180), (F25, w24), ([b31218], u31219)] ∧ bx u31219 b31218 [.int .i64 i31221.fId, .int .i64 i31221.fW, .int .i64 i31221.fH, .int .i64 i31221.fD, .int .i64 i31221.fGram, .int .i64 i31221.fClass, .int .i64 i31221.fCount] 120 ∧ d_spec_IsRival_J4 fu (d_spec_IsRival_L1 fu (d_spec_IsRival_L2 fu (d_spec_IsRival_L3 fu r1 cartons5 x21 m20875) r1 cartons5 x21 i20874 m29554) r1 cartons5 x21 i20874 a29553 m31002) r1 b31001 i31182 i31221 = some r) ?_ ?_
               · rintro a w31217 ⟨i31221, b31218, u31219, k, m, hb31220, h⟩
                 unfold d_spec_IsRival_J4 at h
                 refine wr (sv k rfl (r_fa fa40_3 k rfl rfl) fun a k => sv k rfl (r_ldb t136 m 0 hb19 6 k rfl rfl rfl rfl rfl) fun a k => sv k rfl (r_fa fa120_5 k rfl rfl) fun a k => sv k rfl (r_ldb t13 m 1 hb31181 5 k rfl rfl rfl rfl rfl) fun a k => sv k rfl (r_fa fa120_5 k rfl rfl) fun a k => sv k rfl (r_ldb t13 m 3 hb31220 5 k rfl rfl rfl rfl rfl) fun a k => oE h fun x31222 hx31223 h => cE k m call113 rfl rfl rfl (c_spec_Beside fu _ _ _ (Enc.rd_agr hf15 (m.a00 (Enc.rd_lt hf15))) hx31223) fun w31225 e a k m => pN 1 k rfl fun a k => nn (cI h k rfl (fun hb31226 h => ?_) fun hb31226 h => ?_))
                 · refine wr (pN 1 k rfl fun a k => nn (wp_ret (rt_block (rt_then (rt_then (rt_block (rt_block (rt_then (rt_then (rt_block (rt_block (rt_then (rt_then (rt_block (rt_then ?_)))))))))))))))
                   refine fS h k m rfl rfl
                 refine wp_skip (nm_block (nm_then ?_))
                 exact ⟨k.keep [1, 2, 5, 6, 7, 8] rfl, m.sel [0, 2] rfl (by decide), h⟩
               refine d_go [] mixo m rfl fun w31227 hMd => ?_
               have m := hMd
               have s := Ext.refl ([] : List Nat) w31227
               refine dt k 0 rfl (by kernel_rfl) rfl s (fun _ _ _ => id) (fun w s => r_ldA ta40 (hb19.at ((hMd.step s).a 0 rfl) 0 10 rfl rfl rfl) rfl k rfl rfl) fun a k => dp k 1 rfl (by kernel_rfl) rfl s (fun _ _ _ => id) rfl fun a k => dp k 2 rfl (by kernel_rfl) rfl s (fun _ _ _ => id) rfl fun a k => dp k 3 rfl (by kernel_rfl) rfl s (fun _ _ _ => id) rfl fun a k => oE h fun x31228 hx31229 h => dt k 4 rfl (by kernel_rfl) rfl s (fun _ _ _ => id) (fun w s => r_ixa hp8 hx31229 k ts47 rfl rfl rfl) fun a k => ?_
               obtain ⟨G31230, cs31231, hG31232, hr31233, hp31234, hb31235⟩ := rd_get hp8 (ix_some hx31229).2.2
               obtain ⟨v31236, rfl⟩ : ∃ v, cs31231 = [v] := by obtain ⟨_, _, hq, _⟩ := hr31233; exact ⟨_, hq⟩
               refine dt k 5 rfl (by kernel_rfl) rfl s (fun _ _ _ => id) (fun w s => r_ld1 t129 (hp31234.agr ((hMd.step s).a00 (Enc.rd_lt hp8)) hb31235) k rfl rfl) fun a k => dp k 6 rfl (by kernel_rfl) rfl s (fun _ _ _ => id) rfl fun a k => oE h fun x31237 hx31238 h => dt k 7 rfl (by kernel_rfl) rfl s (fun _ _ _ => id) (fun w s => r_ixa hr31233 hx31238 k ts29 rfl rfl rfl) fun a k => dt k 8 rfl (by kernel_rfl) rfl s (fun _ _ _ => id) (fun w s => r_lde1 hr31233 ((hMd.step s).a00 (Enc.rd_lt hr31233)) hx31238 0 t13 k rfl rfl rfl rfl) fun a k => d_two 9 13 (by kernel_rfl) rfl rfl ?_ ?_ 
               · refine oE h fun x31239 hx31240 h => cE k m call102 rfl rfl rfl (c_spec_l6Item fu _ _ _ (show rd _ _ [.int .i64 r1.fWay, .int .i64 r1.fPallet.fW, .int .i64 r1.fPallet.fD, .int .i64 r1.fPallet.fH, .int .i64 r1.fPallet.fGram, .int .i64 r1.fClasses, v9, v11, .int .i64 r1.fMaster, v13] (r1 : Request) from ⟨_, _, _, _, _, _, rfl, rfl, (Enc.rd_agr hf15 (m.a00 (Enc.rd_lt hf15))), (Enc.rd_agr hf16 (m.a00 (Enc.rd_lt hf16))), (Enc.rd_agr hf17 (m.a00 (Enc.rd_lt hf17)))⟩) (Enc.rd_agr (Enc.ow_rd hf26) (m.a 1 rfl)) hx31240) fun w31242 e a k m => ?_
                 have s := s.trans e (by simp)
                 refine wpList_nil ⟨s, ?_⟩
                 refine dp k 10 rfl (by kernel_rfl) rfl s (fun _ _ _ => id) rfl fun a k => dp k 11 rfl (by kernel_rfl) rfl s (fun _ _ _ => id) rfl fun a k => dp k 12 rfl (by kernel_rfl) rfl s (fun _ _ _ => id) rfl fun a k => d_one 13 (by kernel_rfl) rfl (s_allocN (cs := [.int .i64 0, .int .i64 0, .int .i64 0, .int .i64 0, .int .i64 0, .int .i64 0, .int .i64 0]) m k zeroValue120 rfl rfl rfl rfl rfl fun b31243 w31245 a k m e hb31244 hbn31246 => ?_)
                 have hlo31247 := lo1 (Nat.le_trans s.size hbn31246)
                 have s := s.trans e (by simp)
                 refine wpList_nil ⟨s, ?_⟩
                 refine d_one 14 (by kernel_rfl) rfl (s_stb (cs' := [.int .i64 x31239.1.fId, .int .i64 x31239.1.fW, .int .i64 x31239.1.fH, .int .i64 x31239.1.fD, .int .i64 x31239.1.fGram, .int .i64 x31239.1.fClass, .int .i64 x31239.1.fCount]) sizeOf120 m 0 hb31244 0 k rfl rfl rfl rfl rfl rfl rfl rfl rfl rfl rfl fun w31248 a k e m hb31249 => ?_)
                 have s := s.trans e (fun y hy => Or.inr (hlo31247 y hy))
                 refine wpList_nil ⟨s, ?_⟩
                 refine dp k 15 rfl (by kernel_rfl) rfl s (fun _ _ _ => id) rfl fun a k => d_done (by kernel_rfl) ((nm_then ?_))
                 exact ⟨x31239.1, b31243, w31248, k.keep [1, 2, 5, 6, 7, 8, 9, 11] rfl, m.sel [1, 3, 2, 0] rfl (by decide), hb31249, h⟩
               refine s_allocN (cs := [.int .i64 0, .int .i64 0, .int .i64 0, .int .i64 0, .int .i64 0, .int .i64 0, .int .i64 0]) m k zeroValue120 rfl rfl rfl rfl rfl fun b31250 w31252 a k m e hb31251 hbn31253 => ?_
               have hlo31254 := lo1 (Nat.le_trans s.size hbn31253)
               have s := s.trans e (by simp)
               refine wpList_nil ⟨s, ?_⟩
               refine d_one 9 (by kernel_rfl) rfl (oE h fun x31255 hx31256 h => cE k m call102 rfl rfl rfl (c_spec_l6Item fu _ _ _ (show rd _ _ [.int .i64 r1.fWay, .int .i64 r1.fPallet.fW, .int .i64 r1.fPallet.fD, .int .i64 r1.fPallet.fH, .int .i64 r1.fPallet.fGram, .int .i64 r1.fClasses, v9, v11, .int .i64 r1.fMaster, v13] (r1 : Request) from ⟨_, _, _, _, _, _, rfl, rfl, (Enc.rd_agr hf15 (m.a00 (Enc.rd_lt hf15))), (Enc.rd_agr hf16 (m.a00 (Enc.rd_lt hf16))), (Enc.rd_agr hf17 (m.a00 (Enc.rd_lt hf17)))⟩) (Enc.rd_agr (Enc.ow_rd hf26) (m.a 2 rfl)) hx31256) fun w31258 e a k m => ?_)
               have s := s.trans e (by simp)
               refine wpList_nil ⟨s, ?_⟩
               refine dp k 10 rfl (by kernel_rfl) rfl s (fun _ _ _ => id) rfl fun a k => dp k 11 rfl (by kernel_rfl) rfl s (fun _ _ _ => id) rfl fun a k => dp k 12 rfl (by kernel_rfl) rfl s (fun _ _ _ => id) rfl fun a k => d_one 14 (by kernel_rfl) rfl (s_stb (cs' := [.int .i64 x31255.1.fId, .int .i64 x31255.1.fW, .int .i64 x31255.1.fH, .int .i64 x31255.1.fD, .int .i64 x31255.1.fGram, .int .i64 x31255.1.fClass, .int .i64 x31255.1.fCount]) sizeOf120 m 0 hb31251 0 k rfl rfl rfl rfl rfl rfl rfl rfl rfl rfl rfl fun w31259 a k e m hb31260 => ?_)
               have s := s.trans e (fun y hy => Or.inr (hlo31254 y hy))
               refine wpList_nil ⟨s, ?_⟩
               refine dp k 15 rfl (by kernel_rfl) rfl s (fun _ _ _ => id) rfl fun a k => d_done (by kernel_rfl) ((nm_then ?_))
               exact ⟨x31255.1, b31250, w31259, k.keep [1, 2, 5, 6, 7, 8, 9, 11] rfl, m.sel [1, 3, 2, 0] rfl (by decide), hb31260, h⟩
             refine d_go [] mixo m rfl fun w31261 hMd => ?_
             have m := hMd
             have s := Ext.refl ([] : List Nat) w31261
             refine dt k 0 rfl (by kernel_rfl) rfl s (fun _ _ _ => id) (fun w s => r_ldA ta40 (hb19.at ((hMd.step s).a 0 rfl) 0 10 rfl rfl rfl) rfl k rfl rfl) fun a k => dp k 1 rfl (by kernel_rfl) rfl s (fun _ _ _ => id) rfl fun a k => dp k 2 rfl (by kernel_rfl) rfl s (fun _ _ _ => id) rfl fun a k => dp k 3 rfl (by kernel_rfl) rfl s (fun _ _ _ => id) rfl fun a k => oE h fun x31262 hx31263 h => dt k 4 rfl (by kernel_rfl) rfl s (fun _ _ _ => id) (fun w s => r_ixa hp8 hx31004 k ts47 rfl rfl rfl) fun a k => dt k 5 rfl (by kernel_rfl) rfl s (fun _ _ _ => id) (fun w s => r_ld1 t129 (hp31009.agr ((hMd.step s).a00 (Enc.rd_lt hp8)) hb31010) k rfl rfl) fun a k => dp k 6 rfl (by kernel_rfl) rfl s (fun _ _ _ => id) rfl fun a k => oE h fun x31264 hx31265 h => ?_
             refine dt k 7 rfl (by kernel_rfl) rfl s (fun _ _ _ => id) (fun w s => r_ixa hr31008 hx31265 k ts29 rfl rfl rfl) fun a k => dt k 8 rfl (by kernel_rfl) rfl s (fun _ _ _ => id) (fun w s => r_lde1 hr31008 ((hMd.step s).a00 (Enc.rd_lt hr31008)) hx31265 0 t13 k rfl rfl rfl rfl) fun a k => d_two 9 13 (by kernel_rfl) rfl rfl ?_ ?_ 
             · refine oE h fun x31266 hx31267 h => cE k m call102 rfl rfl rfl (c_spec_l6Item fu _ _ _ (show rd _ _ [.int .i64 r1.fWay, .int .i64 r1.fPallet.fW, .int .i64 r1.fPallet.fD, .int .i64 r1.fPallet.fH, .int .i64 r1.fPallet.fGram, .int .i64 r1.fClasses, v9, v11, .int .i64 r1.fMaster, v13] (r1 : Request) from ⟨_, _, _, _, _, _, rfl, rfl, (Enc.rd_agr hf15 (m.a00 (Enc.rd_lt hf15))), (Enc.rd_agr hf16 (m.a00 (Enc.rd_lt hf16))), (Enc.rd_agr hf17 (m.a00 (Enc.rd_lt hf17)))⟩) (Enc.rd_agr (Enc.ow_rd hf26) (m.a 1 rfl)) hx31267) fun w31269 e a k m => ?_
               have s := s.trans e (by simp)
               refine wpList_nil ⟨s, ?_⟩
               refine dp k 10 rfl (by kernel_rfl) rfl s (fun _ _ _ => id) rfl fun a k => dp k 11 rfl (by kernel_rfl) rfl s (fun _ _ _ => id) rfl fun a k => dp k 12 rfl (by kernel_rfl) rfl s (fun _ _ _ => id) rfl fun a k => d_one 13 (by kernel_rfl) rfl (s_allocN (cs := [.int .i64 0, .int .i64 0, .int .i64 0, .int .i64 0, .int .i64 0, .int .i64 0, .int .i64 0]) m k zeroValue120 rfl rfl rfl rfl rfl fun b31270 w31272 a k m e hb31271 hbn31273 => ?_)
               have hlo31274 := lo1 (Nat.le_trans s.size hbn31273)
               have s := s.trans e (by simp)
               refine wpList_nil ⟨s, ?_⟩
               refine d_one 14 (by kernel_rfl) rfl (s_stb (cs' := [.int .i64 x31266.1.fId, .int .i64 x31266.1.fW, .int .i64 x31266.1.fH, .int .i64 x31266.1.fD, .int .i64 x31266.1.fGram, .int .i64 x31266.1.fClass, .int .i64 x31266.1.fCount]) sizeOf120 m 0 hb31271 0 k rfl rfl rfl rfl rfl rfl rfl rfl rfl rfl rfl fun w31275 a k e m hb31276 => ?_)
               have s := s.trans e (fun y hy => Or.inr (hlo31274 y hy))
               refine wpList_nil ⟨s, ?_⟩
               refine dp k 15 rfl (by kernel_rfl) rfl s (fun _ _ _ => id) rfl fun a k => d_done (by kernel_rfl) ((nm_then ?_))
               exact ⟨x31266.1, b31270, w31275, k.keep [1, 2, 5, 6, 7, 8, 9] rfl, m.sel [1, 2, 0] rfl (by decide), hb31276, h⟩
             refine s_allocN (cs := [.int .i64 0, .int .i64 0, .int .i64 0, .int .i64 0, .int .i64 0, .int .i64 0, .int .i64 0]) m k zeroValue120 rfl rfl rfl rfl rfl fun b31277 w31279 a k m e hb31278 hbn31280 => ?_
             have hlo31281 := lo1 (Nat.le_trans s.size hbn31280)
             have s := s.trans e (by simp)
             refine wpList_nil ⟨s, ?_⟩
             refine d_one 9 (by kernel_rfl) rfl (oE h fun x31282 hx31283 h => cE k m call102 rfl rfl rfl (c_spec_l6Item fu _ _ _ (show rd _ _ [.int .i64 r1.fWay, .int .i64 r1.fPallet.fW, .int .i64 r1.fPallet.fD, .int .i64 r1.fPallet.fH, .int .i64 r1.fPallet.fGram, .int .i64 r1.fClasses, v9, v11, .int .i64 r1.fMaster, v13] (r1 : Request) from ⟨_, _, _, _, _, _, rfl, rfl, (Enc.rd_agr hf15 (m.a00 (Enc.rd_lt hf15))), (Enc.rd_agr hf16 (m.a00 (Enc.rd_lt hf16))), (Enc.rd_agr hf17 (m.a00 (Enc.rd_lt hf17)))⟩) (Enc.rd_agr (Enc.ow_rd hf26) (m.a 2 rfl)) hx31283) fun w31285 e a k m => ?_)
             have s := s.trans e (by simp)
             refine wpList_nil ⟨s, ?_⟩
             refine dp k 10 rfl (by kernel_rfl) rfl s (fun _ _ _ => id) rfl fun a k => dp k 11 rfl (by kernel_rfl) rfl s (fun _ _ _ => id) rfl fun a k => dp k 12 rfl (by kernel_rfl) rfl s (fun _ _ _ => id) rfl fun a k => d_one 14 (by kernel_rfl) rfl (s_stb (cs' := [.int .i64 x31282.1.fId, .int .i64 x31282.1.fW, .int .i64 x31282.1.fH, .int .i64 x31282.1.fD, .int .i64 x31282.1.fGram, .int .i64 x31282.1.fClass, .int .i64 x31282.1.fCount]) sizeOf120 m 0 hb31278 0 k rfl rfl rfl rfl rfl rfl rfl rfl rfl rfl rfl fun w31286 a k e m hb31287 => ?_)
             have s := s.trans e (fun y hy => Or.inr (hlo31281 y hy))
             refine wpList_nil ⟨s, ?_⟩
             refine dp k 15 rfl (by kernel_rfl) rfl s (fun _ _ _ => id) rfl fun a k => d_done (by kernel_rfl) ((nm_then ?_))
             exact ⟨x31282.1, b31277, w31286, k.keep [1, 2, 5, 6, 7, 8, 9] rfl, m.sel [1, 2, 0] rfl (by decide), hb31287, h⟩
           refine wp_exit (ex_then (ex_then (ex_same (nm_block (nm_then ?_)))))
           exact ⟨k.keep [1, 2, 5, 6, 7] rfl, m.sel [0, 1] rfl (by decide), h⟩
         exact ⟨0, k.keep [1, 2, 5, 6, 7, 8] rfl, m.sel [0, 1] rfl (by decide), h⟩
       refine wp_exit (ex_then (ex_then (ex_same (nm_block (nm_then ?_)))))
       exact ⟨k.keep [1, 2, 5, 6] rfl, m.sel [0, 1] rfl (by decide), h⟩
     exact ⟨0, k.keep [1, 2, 5, 6, 7] rfl, m.sel [0, 1] rfl (by decide), h⟩
   refine wp_exit (ex_then (ex_then (ex_same (nm_then ?_))))
   refine wr (pN 1 k rfl fun a k => nn (wp_ret (fS h k m rfl rfl)))
 exact ⟨0, k.keep [1, 2, 5, 6] rfl, m.sel [2, 1] rfl (by decide), h⟩
theorem c_impl_TypeById_1 (fu : Nat) {w0 : World} (t1 : Typ) (x2 : Int) {b3 : Nat} (hp4 : bx w0 b3 [.int .i64 x2] 3) {r : Bool}
    (h : d_impl_TypeById_1 fu t1 x2 = some r) :
    Calls Tryz.prog 141 #[.agg (Flat.e (t1)).toArray, .pointer (some (⟨b3, 0, none⟩ : Addr))] w0 fun e w => e = .returned (.bool (r)) ∧ Ext [] w0 w := by
 refine enter (vs := [_, _]) func141 rfl ntmps141 rfl fun a k => ?_
 have m := St.start w0
 unfold d_impl_TypeById_1 at h
 refine wr (s_box (cs := [.int .i64 t1.fId, .int .i64 t1.fW, .int .i64 t1.fH, .int .i64 t1.fD, .int .i64 t1.fTare, .int .i64 t1.fGram, .int .i64 t1.fCost]) m k rfl rfl rfl rfl rfl rfl fun b5 w7 a k m e hb6 => pN 1 k rfl fun a k => nn (wr (sv k rfl (r_fa fa92_0 k rfl rfl) fun a k => sv k rfl (r_ldb t13 m 0 hb6 0 k rfl rfl rfl rfl rfl) fun a k => sv k rfl (r_ld1 t13 (r := []) (hp4.at (m.a00 hp4.lt1) 0 1 rfl rfl rfl) k rfl rfl) fun a k => pN 2 k rfl fun a k => nn (wp_ret (fS h k m rfl rfl)))))
theorem c_slices_IndexFunc_impl_Type_impl_Type (fu : Nat) {w0 : World} (sv1 : List Typ) (f5 : Typ → Option Bool) {v2 : Value} {F3 : List Nat} (hp4 : rd w0 F3 [v2] sv1) {v6 : Value} (hp7 : FnOk1 Tryz.prog w0 v6 f5) {r : Int}
    (h : d_slices_IndexFunc_impl_Type_impl_Type fu sv1 f5 = some r) :
    Calls Tryz.prog 140 #[v2, v6] w0 fun e w => e = .returned (.int .i64 r) ∧ Ext [] w0 w := by
 refine enter (vs := [_, _]) func140 rfl ntmps140 rfl fun a k => ?_
 have m := St.start w0
 obtain ⟨fid8, cap9, rfl, hcl10, hcc11⟩ := hp7
 unfold d_slices_IndexFunc_impl_Type_impl_Type at h
 refine wr (pN 1 k rfl fun a k => nn (wp_seq (wr (pN 1 k rfl fun a k => sv k rfl (r_len (α := Typ) hp4 k underlying37 rfl rfl) fun a k => pN 1 k rfl fun a k => nn (wp_block (c_loop (fun n a w => ∃ (x32 : Int), K 19 [(0, v2), (1, (.func (.func fid8) #[] cap9.toArray)), (7, .int .i64 ((sv1.length : Int))), (8, .int .i64 x32)] a ∧ St [] w0 w [] ∧ d_slices_IndexFunc_impl_Type_impl_Type_L1 fu sv1 f5 n x32 = some r) ?_ ?_ fu _ _ ?_))))))
 · rintro a w ⟨_, _, _, h⟩
   exact nS h
 · rintro m33 a w31 ⟨x32, k, m, h⟩
   rw [d_slices_IndexFunc_impl_Type_impl_Type_L1_s] at h
   unfold d_slices_IndexFunc_impl_Type_impl_Type_L1_B at h
   refine wr (pN 1 k rfl fun a k => nn (wp_seq (cI h k rfl (fun hb34 h => ?_) fun hb34 h => ?_)))
   · refine wp_skip (nm_then ?_)
     refine wp_seq (wp_block (wr (pN 2 k rfl fun a k => nn (wr (pN 3 k rfl fun a k => oE h fun x35 hx36 h => sv k rfl (r_ixa hp4 hx36 k ts37 rfl rfl rfl) fun a k => sv k rfl (r_lde hp4 (m.a00 (Enc.rd_lt hp4)) hx36 ta92 k rfl rfl) fun a k => oE h fun x37 hx38 h => s_callv k hcl10 rfl rfl rfl rfl rfl rfl (hcc11 _ _ _ _ m.ext rfl hx38) fun e39 w40 hR => ?_)))))
     obtain ⟨rfl, e⟩ := hR
     refine ⟨_, rfl, fun a k => ?_⟩
     have m := m.step e
     refine nn (cI h k rfl (fun hb41 h => ?_) fun hb41 h => ?_)
     · refine wr (pN 2 k rfl fun a k => nn (wp_ret (rt_block (rt_then (rt_then (rt_block (rt_then ?_)))))))
       refine fS h k m rfl rfl
     refine wp_skip (nm_block (nm_then ?_))
     refine wp_region_lit (pN 2 k rfl fun a k => nn ?_)
     exact ⟨w64 (x32 + 1), k.keep [0, 1, 7, 8] rfl, m.sel [] rfl (by decide), h⟩
   refine wp_exit (ex_then (ex_then (ex_same (nm_then ?_))))
   refine wr (pN 1 k rfl fun a k => nn (wp_ret (fS h k m rfl rfl)))
 exact ⟨0, k.keep [0, 1, 7, 8] rfl, m.sel [] rfl (by decide), h⟩
theorem c_impl_TypeById (fu : Nat) {w0 : World} (r1 : Request) (id5 : Int) {cs2 : List Value} {F3 : List Nat} (hp4 : rd w0 F3 cs2 r1) {r : Typ × Bool}
    (h : d_impl_TypeById fu r1 id5 = some r) :
    Calls Tryz.prog 75 #[.agg cs2.toArray, .int .i64 id5] w0 fun e w => e = .returned (.tuple #[.agg (Flat.e r.1).toArray, .bool (r.2)]) ∧ Ext [] w0 w := by
 refine enter (vs := [_, _]) func75 rfl ntmps75 rfl fun a k => ?_
 have m := St.start w0
 obtain ⟨v6, F7, v8, F9, v10, F11, rfl, rfl, hf12, hf13, hf14⟩ := hp4
 unfold d_impl_TypeById at h
 refine wr (s_box (cs := [.int .i64 r1.fWay, .int .i64 r1.fPallet.fW, .int .i64 r1.fPallet.fD, .int .i64 r1.fPallet.fH, .int .i64 r1.fPallet.fGram, .int .i64 r1.fClasses, v6, v8, .int .i64 r1.fMaster, v10]) m k rfl rfl rfl rfl rfl rfl fun b15 w17 a k m e hb16 => s_box (cs := [.int .i64 id5]) m k rfl rfl rfl rfl rfl rfl fun b18 w20 a k m e hb19 => s_alloc (cs := [.int .i64 0, .int .i64 0, .int .i64 0, .int .i64 0, .int .i64 0, .int .i64 0, .int .i64 0]) m k zeroValue92 rfl rfl rfl rfl rfl fun b21 w23 a k m e hb22 => pN 1 k rfl fun a k => nn (wr (sv k rfl (r_fa fa40_4 k rfl rfl) fun a k => sv k rfl (r_ldb t137 m 2 hb16 7 k rfl rfl rfl rfl rfl) fun a k => pN 1 k rfl fun a k => oE h fun x27 hx28 h => ?_)))
 refine cE k m call140 rfl rfl rfl (c_slices_IndexFunc_impl_Type_impl_Type fu _ _ (Enc.rd_agr hf13 (m.a00 (Enc.rd_lt hf13))) ⟨141, [.pointer (some (⟨b18, 0, none⟩ : Addr))], rfl, call141, fun w y24 v25 r e hv26 hx => by subst hv26; have m := m.step e; exact c_impl_TypeById_1 fu _ _ (hb19.agr (m.a 1 rfl) (by simp)) hx⟩ hx28) fun w30 e a k m => pN 1 k rfl fun a k => nn (wp_seq (wr (pN 2 k rfl fun a k => nn (cI h k rfl (fun hb31 h => ?_) fun hb31 h => ?_))))
 · refine wr (sv k rfl (r_build bt92 k (ps := []) rfl rfl rfl) fun a k => s_stb (cs' := [.int .i64 0, .int .i64 0, .int .i64 0, .int .i64 0, .int .i64 0, .int .i64 0, .int .i64 0]) sizeOf92 m 0 hb22 0 k rfl rfl rfl rfl rfl rfl rfl rfl rfl rfl rfl fun w32 a k e m hb33 => pN 1 k rfl fun a k => nn (wp_ret (rt_then ?_)))
   cases h
   exact finR2 k rfl (RV.cA k rfl ta92 (hb33.at (m.a 0 rfl) 0 7 rfl rfl rfl) rfl) (RV.tmp k rfl) ⟨rfl, m.ext⟩
 refine wp_skip (nm_then ?_)
 refine wr (sv k rfl (r_fa fa40_4 k rfl rfl) fun a k => sv k rfl (r_ldb t137 m 2 hb16 7 k rfl rfl rfl rfl rfl) fun a k => pN 1 k rfl fun a k => oE h fun x34 hx35 h => sv k rfl (r_ixa hf13 hx35 k ts37 rfl rfl rfl) fun a k => sv k rfl (r_lde hf13 (m.a00 (Enc.rd_lt hf13)) hx35 ta92 k rfl rfl) fun a k => s_stb (cs' := [.int .i64 x34.fId, .int .i64 x34.fW, .int .i64 x34.fH, .int .i64 x34.fD, .int .i64 x34.fTare, .int .i64 x34.fGram, .int .i64 x34.fCost]) sizeOf92 m 0 hb22 0 k rfl rfl rfl rfl rfl rfl rfl rfl rfl rfl rfl fun w36 a k e m hb37 => pN 1 k rfl fun a k => nn (wp_ret ?_))
 cases h
 exact finR2 k rfl (RV.cA k rfl ta92 (hb37.at (m.a 0 rfl) 0 7 rfl rfl rfl) rfl) (RV.tmp k rfl) ⟨rfl, m.ext⟩
theorem c_impl_MasterOf (fu : Nat) {w0 : World} (r1 : Request) {cs2 : List Value} {F3 : List Nat} (hp4 : rd w0 F3 cs2 r1) {r : Typ × Bool}
    (h : d_impl_MasterOf fu r1 = some r) :
    Calls Tryz.prog 148 #[.agg cs2.toArray] w0 fun e w => e = .returned (.tuple #[.agg (Flat.e r.1).toArray, .bool (r.2)]) ∧ Ext [] w0 w := by
 refine enter (vs := [_]) func148 rfl ntmps148 rfl fun a k => ?_
 have m := St.start w0
 obtain ⟨v5, F6, v7, F8, v9, F10, rfl, rfl, hf11, hf12, hf13⟩ := hp4
 unfold d_impl_MasterOf at h
 refine wr (s_box (cs := [.int .i64 r1.fWay, .int .i64 r1.fPallet.fW, .int .i64 r1.fPallet.fD, .int .i64 r1.fPallet.fH, .int .i64 r1.fPallet.fGram, .int .i64 r1.fClasses, v5, v7, .int .i64 r1.fMaster, v9]) m k rfl rfl rfl rfl rfl rfl fun b14 w16 a k m e hb15 => s_alloc (cs := [.int .i64 0, .int .i64 0, .int .i64 0, .int .i64 0, .int .i64 0, .int .i64 0, .int .i64 0]) m k zeroValue92 rfl rfl rfl rfl rfl fun b17 w19 a k m e hb18 => pN 1 k rfl fun a k => nn (wr (sv k rfl (r_ldB ta40 m 1 hb15 0 k rfl rfl rfl rfl rfl rfl) fun a k => sv k rfl (r_fa fa40_5 k rfl rfl) fun a k => sv k rfl (r_ldb t13 m 1 hb15 8 k rfl rfl rfl rfl rfl) fun a k => oE h fun x20 hx21 h => ?_)))
 refine cE k m call75 rfl rfl rfl (c_impl_TypeById fu _ _ (show rd _ _ [.int .i64 r1.fWay, .int .i64 r1.fPallet.fW, .int .i64 r1.fPallet.fD, .int .i64 r1.fPallet.fH, .int .i64 r1.fPallet.fGram, .int .i64 r1.fClasses, v5, v7, .int .i64 r1.fMaster, v9] (r1 : Request) from ⟨_, _, _, _, _, _, rfl, rfl, (Enc.rd_agr hf11 (m.a00 (Enc.rd_lt hf11))), (Enc.rd_agr hf12 (m.a00 (Enc.rd_lt hf12))), (Enc.rd_agr hf13 (m.a00 (Enc.rd_lt hf13)))⟩) hx21) fun w23 e a k m => pN 2 k rfl fun a k => s_stb (cs' := [.int .i64 x20.1.fId, .int .i64 x20.1.fW, .int .i64 x20.1.fH, .int .i64 x20.1.fD, .int .i64 x20.1.fTare, .int .i64 x20.1.fGram, .int .i64 x20.1.fCost]) sizeOf92 m 0 hb18 0 k rfl rfl rfl rfl rfl rfl rfl rfl rfl rfl rfl fun w24 a k e m hb25 => pN 1 k rfl fun a k => nn (wp_ret ?_)
 cases h
 exact finR2 k rfl (RV.cA k rfl ta92 (hb25.at (m.a 0 rfl) 0 7 rfl rfl rfl) rfl) (RV.tmp k rfl) ⟨rfl, m.ext⟩
theorem c_impl_in (fu : Nat) {w0 : World} (n1 : Int) (lo2 : Int) (hi3 : Int)  {r : Bool}
    (h : d_impl_in fu n1 lo2 hi3 = some r) :
    Calls Tryz.prog 99 #[.int .i64 n1, .int .i64 lo2, .int .i64 hi3] w0 fun e w => e = .returned (.bool (r)) ∧ Ext [] w0 w := by
 refine enter (vs := [_, _, _]) func99 rfl ntmps99 rfl fun a k => ?_
 have m := St.start w0
 unfold d_impl_in at h
 refine wr (pN 1 k rfl fun a k => nn (wr (pN 4 k rfl fun a k => bsplit (decide (n1 ≥ lo2)) (fun hb4 => ?_) (fun hb4 => ?_))))
 · have h := bif_t hb4 h
   refine rB k 10 rfl hb4 fun k => pN 5 k rfl fun a k => nn (wp_ret (fS h k m rfl rfl))
 have h := bif_f hb4 h
 refine rB k 10 rfl hb4 fun k => pN 5 k rfl fun a k => nn (wp_ret (fS h k m rfl rfl))
theorem c_impl_isSide (fu : Nat) {w0 : World} (n1 : Int)  {r : Bool}
    (h : d_impl_isSide fu n1 = some r) :
    Calls Tryz.prog 224 #[.int .i64 n1] w0 fun e w => e = .returned (.bool (r)) ∧ Ext [] w0 w := by
 refine enter (vs := [_]) func224 rfl ntmps224 rfl fun a k => ?_
 have m := St.start w0
 unfold d_impl_isSide at h
 refine wr (pN 1 k rfl fun a k => nn (wr (pN 1 k rfl fun a k => oE h fun x2 hx3 h => cE k m call99 rfl rfl rfl (c_impl_in fu _ _ _  hx3) fun w5 e a k m => pN 1 k rfl fun a k => nn (wp_ret (fS h k m rfl rfl)))))
theorem c_impl_PalletOk (fu : Nat) {w0 : World} (x1 : Pallet)  {r : Bool}
    (h : d_impl_PalletOk fu x1 = some r) :
    Calls Tryz.prog 199 #[.agg (Flat.e (x1)).toArray] w0 fun e w => e = .returned (.bool (r)) ∧ Ext [] w0 w := by
 refine enter (vs := [_]) func199 rfl ntmps199 rfl fun a k => ?_
 have m := St.start w0
 unfold d_impl_PalletOk at h
 refine wr (s_box (cs := [.int .i64 x1.fW, .int .i64 x1.fD, .int .i64 x1.fH, .int .i64 x1.fGram]) m k rfl rfl rfl rfl rfl rfl fun b2 w4 a k m e hb3 => pN 1 k rfl fun a k => nn (wr (sv k rfl (r_fa fa35_0 k rfl rfl) fun a k => sv k rfl (r_ldb t13 m 0 hb3 0 k rfl rfl rfl rfl rfl) fun a k => oE h fun x5 hx6 h => cE k m call224 rfl rfl rfl (c_impl_isSide fu _  hx6) fun w8 e a k m => pN 1 k rfl fun a k => bsplit (x5) (fun hb9 => ?_) (fun hb9 => ?_))))
 · have h := bif_t hb9 h
   refine rB k 6 rfl hb9 fun k => sv k rfl (r_fa fa35_1 k rfl rfl) fun a k => sv k rfl (r_ldb t13 m 0 hb3 1 k rfl rfl rfl rfl rfl) fun a k => oE h fun x10 hx11 h => cE k m call224 rfl rfl rfl (c_impl_isSide fu _  hx11) fun w13 e a k m => pN 2 k rfl fun a k => bsplit (x10) (fun hb14 => ?_) (fun hb14 => ?_)
   · have h := bif_t hb14 h
     refine rB k 11 rfl hb14 fun k => sv k rfl (r_fa fa35_2 k rfl rfl) fun a k => sv k rfl (r_ldb t13 m 0 hb3 2 k rfl rfl rfl rfl rfl) fun a k => oE h fun x15 hx16 h => cE k m call224 rfl rfl rfl (c_impl_isSide fu _  hx16) fun w18 e a k m => pN 2 k rfl fun a k => bsplit (x15) (fun hb19 => ?_) (fun hb19 => ?_)
     · have h := bif_t hb19 h
       refine rB k 16 rfl hb19 fun k => sv k rfl (r_fa fa35_3 k rfl rfl) fun a k => sv k rfl (r_ldb t13 m 0 hb3 3 k rfl rfl rfl rfl rfl) fun a k => oE h fun x20 hx21 h => cE k m call99 rfl rfl rfl (c_impl_in fu _ _ _  hx21) fun w23 e a k m => pN 2 k rfl fun a k => nn (wp_ret (fS h k m rfl rfl))
     have h := bif_f hb19 h
     refine rB k 16 rfl hb19 fun k => pN 5 k rfl fun a k => nn (wp_ret (fS h k m rfl rfl))
   have h := bif_f hb14 h
   refine rB k 11 rfl hb14 fun k => pN 10 k rfl fun a k => nn (wp_ret (fS h k m rfl rfl))
 have h := bif_f hb9 h
 refine rB k 6 rfl hb9 fun k => pN 15 k rfl fun a k => nn (wp_ret (fS h k m rfl rfl))
theorem c_slices_IndexFunc_impl_Pair_impl_Pair (fu : Nat) {w0 : World} (sv1 : List Pair) (f5 : Pair → Option Bool) {v2 : Value} {F3 : List Nat} (hp4 : rd w0 F3 [v2] sv1) {v6 : Value} (hp7 : FnOk1 Tryz.prog w0 v6 f5) {r : Int}
    (h : d_slices_IndexFunc_impl_Pair_impl_Pair fu sv1 f5 = some r) :
    Calls Tryz.prog 225 #[v2, v6] w0 fun e w => e = .returned (.int .i64 r) ∧ Ext [] w0 w := by
 refine enter (vs := [_, _]) func225 rfl ntmps225 rfl fun a k => ?_
 have m := St.start w0
 obtain ⟨fid8, cap9, rfl, hcl10, hcc11⟩ := hp7
 unfold d_slices_IndexFunc_impl_Pair_impl_Pair at h
 refine wr (pN 1 k rfl fun a k => nn (wp_seq (wr (pN 1 k rfl fun a k => sv k rfl (r_len (α := Pair) hp4 k underlying36 rfl rfl) fun a k => pN 1 k rfl fun a k => nn (wp_block (c_loop (fun n a w => ∃ (x32 : Int), K 19 [(0, v2), (1, (.func (.func fid8) #[] cap9.toArray)), (7, .int .i64 ((sv1.length : Int))), (8, .int .i64 x32)] a ∧ St [] w0 w [] ∧ d_slices_IndexFunc_impl_Pair_impl_Pair_L1 fu sv1 f5 n x32 = some r) ?_ ?_ fu _ _ ?_))))))
 · rintro a w ⟨_, _, _, h⟩
   exact nS h
 · rintro m33 a w31 ⟨x32, k, m, h⟩
   rw [d_slices_IndexFunc_impl_Pair_impl_Pair_L1_s] at h
   unfold d_slices_IndexFunc_impl_Pair_impl_Pair_L1_B at h
   refine wr (pN 1 k rfl fun a k => nn (wp_seq (cI h k rfl (fun hb34 h => ?_) fun hb34 h => ?_)))
   · refine wp_skip (nm_then ?_)
     refine wp_seq (wp_block (wr (pN 2 k rfl fun a k => nn (wr (pN 3 k rfl fun a k => oE h fun x35 hx36 h => sv k rfl (r_ixa hp4 hx36 k ts36 rfl rfl rfl) fun a k => sv k rfl (r_lde hp4 (m.a00 (Enc.rd_lt hp4)) hx36 ta144 k rfl rfl) fun a k => oE h fun x37 hx38 h => s_callv k hcl10 rfl rfl rfl rfl rfl rfl (hcc11 _ _ _ _ m.ext rfl hx38) fun e39 w40 hR => ?_)))))
     obtain ⟨rfl, e⟩ := hR
     refine ⟨_, rfl, fun a k => ?_⟩
     have m := m.step e
     refine nn (cI h k rfl (fun hb41 h => ?_) fun hb41 h => ?_)
     · refine wr (pN 2 k rfl fun a k => nn (wp_ret (rt_block (rt_then (rt_then (rt_block (rt_then ?_)))))))
       refine fS h k m rfl rfl
     refine wp_skip (nm_block (nm_then ?_))
     refine wp_region_lit (pN 2 k rfl fun a k => nn ?_)
     exact ⟨w64 (x32 + 1), k.keep [0, 1, 7, 8] rfl, m.sel [] rfl (by decide), h⟩
   refine wp_exit (ex_then (ex_then (ex_same (nm_then ?_))))
   refine wr (pN 1 k rfl fun a k => nn (wp_ret (fS h k m rfl rfl)))
 exact ⟨0, k.keep [0, 1, 7, 8] rfl, m.sel [] rfl (by decide), h⟩
theorem c_slices_ContainsFunc_impl_Pair_impl_Pair (fu : Nat) {w0 : World} (sv1 : List Pair) (f5 : Pair → Option Bool) {v2 : Value} {F3 : List Nat} (hp4 : rd w0 F3 [v2] sv1) {v6 : Value} (hp7 : FnOk1 Tryz.prog w0 v6 f5) {r : Bool}
    (h : d_slices_ContainsFunc_impl_Pair_impl_Pair fu sv1 f5 = some r) :
    Calls Tryz.prog 200 #[v2, v6] w0 fun e w => e = .returned (.bool (r)) ∧ Ext [] w0 w := by
 refine enter (vs := [_, _]) func200 rfl ntmps200 rfl fun a k => ?_
 have m := St.start w0
 obtain ⟨fid8, cap9, rfl, hcl10, hcc11⟩ := hp7
 unfold d_slices_ContainsFunc_impl_Pair_impl_Pair at h
 refine wr (pN 1 k rfl fun a k => nn (wr (pN 2 k rfl fun a k => oE h fun x14 hx15 h => cE k m call225 rfl rfl rfl (c_slices_IndexFunc_impl_Pair_impl_Pair fu _ _ (Enc.rd_agr hp4 (m.a00 (Enc.rd_lt hp4))) ⟨_, _, rfl, hcl10, fun w y12 v13 r e => hcc11 w y12 v13 r (m.ext.trans e (by simp))⟩ hx15) fun w17 e a k m => pN 2 k rfl fun a k => nn (wp_ret (fS h k m rfl rfl)))))
theorem c_impl_BoundsOk_1 (fu : Nat) {w0 : World} (p1 : Pair)  {r : Bool}
    (h : d_impl_BoundsOk_1 fu p1 = some r) :
    Calls Tryz.prog 201 #[.agg (Flat.e (p1)).toArray] w0 fun e w => e = .returned (.bool (r)) ∧ Ext [] w0 w := by
 refine enter (vs := [_]) func201 rfl ntmps201 rfl fun a k => ?_
 have m := St.start w0
 unfold d_impl_BoundsOk_1 at h
 refine wr (s_box (cs := [.int .i64 p1.fA, .int .i64 p1.fB]) m k rfl rfl rfl rfl rfl rfl fun b2 w4 a k m e hb3 => pN 1 k rfl fun a k => nn (wr (sv k rfl (r_fa fa144_0 k rfl rfl) fun a k => sv k rfl (r_ldb t13 m 0 hb3 0 k rfl rfl rfl rfl rfl) fun a k => oE h fun x5 hx6 h => cE k m call99 rfl rfl rfl (c_impl_in fu _ _ _  hx6) fun w8 e a k m => pN 2 k rfl fun a k => bsplit (!x5) (fun hb9 => ?_) (fun hb9 => ?_))))
 · have h := bif_t hb9 h
   refine rB k 7 rfl hb9 fun k => pN 6 k rfl fun a k => nn (wp_ret (fS h k m rfl rfl))
 have h := bif_f hb9 h
 refine rB k 7 rfl hb9 fun k => sv k rfl (r_fa fa144_1 k rfl rfl) fun a k => sv k rfl (r_ldb t13 m 0 hb3 1 k rfl rfl rfl rfl rfl) fun a k => oE h fun x10 hx11 h => cE k m call99 rfl rfl rfl (c_impl_in fu _ _ _  hx11) fun w13 e a k m => pN 3 k rfl fun a k => nn (wp_ret (fS h k m rfl rfl))
theorem c_slices_ContainsFunc_impl_Type_impl_Type (fu : Nat) {w0 : World} (sv1 : List Typ) (f5 : Typ → Option Bool) {v2 : Value} {F3 : List Nat} (hp4 : rd w0 F3 [v2] sv1) {v6 : Value} (hp7 : FnOk1 Tryz.prog w0 v6 f5) {r : Bool}
    (h : d_slices_ContainsFunc_impl_Type_impl_Type fu sv1 f5 = some r) :
    Calls Tryz.prog 184 #[v2, v6] w0 fun e w => e = .returned (.bool (r)) ∧ Ext [] w0 w := by
 refine enter (vs := [_, _]) func184 rfl ntmps184 rfl fun a k => ?_
 have m := St.start w0
 obtain ⟨fid8, cap9, rfl, hcl10, hcc11⟩ := hp7
 unfold d_slices_ContainsFunc_impl_Type_impl_Type at h
 refine wr (pN 1 k rfl fun a k => nn (wr (pN 2 k rfl fun a k => oE h fun x14 hx15 h => cE k m call140 rfl rfl rfl (c_slices_IndexFunc_impl_Type_impl_Type fu _ _ (Enc.rd_agr hp4 (m.a00 (Enc.rd_lt hp4))) ⟨_, _, rfl, hcl10, fun w y12 v13 r e => hcc11 w y12 v13 r (m.ext.trans e (by simp))⟩ hx15) fun w17 e a k m => pN 2 k rfl fun a k => nn (wp_ret (fS h k m rfl rfl)))))
theorem c_impl_TypeOk (fu : Nat) {w0 : World} (x1 : Typ)  {r : Bool}
    (h : d_impl_TypeOk fu x1 = some r) :
    Calls Tryz.prog 203 #[.agg (Flat.e (x1)).toArray] w0 fun e w => e = .returned (.bool (r)) ∧ Ext [] w0 w := by
 refine enter (vs := [_]) func203 rfl ntmps203 rfl fun a k => ?_
 have m := St.start w0
 unfold d_impl_TypeOk at h
 refine wr (s_box (cs := [.int .i64 x1.fId, .int .i64 x1.fW, .int .i64 x1.fH, .int .i64 x1.fD, .int .i64 x1.fTare, .int .i64 x1.fGram, .int .i64 x1.fCost]) m k rfl rfl rfl rfl rfl rfl fun b2 w4 a k m e hb3 => pN 1 k rfl fun a k => nn (wr (sv k rfl (r_fa fa92_0 k rfl rfl) fun a k => sv k rfl (r_ldb t13 m 0 hb3 0 k rfl rfl rfl rfl rfl) fun a k => oE h fun x5 hx6 h => cE k m call99 rfl rfl rfl (c_impl_in fu _ _ _  hx6) fun w8 e a k m => pN 1 k rfl fun a k => bsplit (x5) (fun hb9 => ?_) (fun hb9 => ?_))))
 · have h := bif_t hb9 h
   refine rB k 6 rfl hb9 fun k => sv k rfl (r_fa fa92_1 k rfl rfl) fun a k => sv k rfl (r_ldb t13 m 0 hb3 1 k rfl rfl rfl rfl rfl) fun a k => oE h fun x10 hx11 h => cE k m call224 rfl rfl rfl (c_impl_isSide fu _  hx11) fun w13 e a k m => pN 2 k rfl fun a k => bsplit (x10) (fun hb14 => ?_) (fun hb14 => ?_)
   · have h := bif_t hb14 h
     refine rB k 11 rfl hb14 fun k => sv k rfl (r_fa fa92_2 k rfl rfl) fun a k => sv k rfl (r_ldb t13 m 0 hb3 2 k rfl rfl rfl rfl rfl) fun a k => oE h fun x15 hx16 h => cE k m call224 rfl rfl rfl (c_impl_isSide fu _  hx16) fun w18 e a k m => pN 2 k rfl fun a k => bsplit (x15) (fun hb19 => ?_) (fun hb19 => ?_)
     · have h := bif_t hb19 h
       refine rB k 16 rfl hb19 fun k => sv k rfl (r_fa fa92_3 k rfl rfl) fun a k => sv k rfl (r_ldb t13 m 0 hb3 3 k rfl rfl rfl rfl rfl) fun a k => oE h fun x20 hx21 h => cE k m call224 rfl rfl rfl (c_impl_isSide fu _  hx21) fun w23 e a k m => pN 2 k rfl fun a k => bsplit (x20) (fun hb24 => ?_) (fun hb24 => ?_)
       · have h := bif_t hb24 h
         refine rB k 21 rfl hb24 fun k => sv k rfl (r_fa fa92_4 k rfl rfl) fun a k => sv k rfl (r_ldb t13 m 0 hb3 4 k rfl rfl rfl rfl rfl) fun a k => oE h fun x25 hx26 h => cE k m call99 rfl rfl rfl (c_impl_in fu _ _ _  hx26) fun w28 e a k m => pN 2 k rfl fun a k => bsplit (x25) (fun hb29 => ?_) (fun hb29 => ?_)
         · have h := bif_t hb29 h
           refine rB k 26 rfl hb29 fun k => sv k rfl (r_fa fa92_5 k rfl rfl) fun a k => sv k rfl (r_ldb t13 m 0 hb3 5 k rfl rfl rfl rfl rfl) fun a k => oE h fun x30 hx31 h => cE k m call99 rfl rfl rfl (c_impl_in fu _ _ _  hx31) fun w33 e a k m => pN 2 k rfl fun a k => bsplit (x30) (fun hb34 => ?_) (fun hb34 => ?_)
           · have h := bif_t hb34 h
             refine rB k 31 rfl hb34 fun k => sv k rfl (r_fa fa92_6 k rfl rfl) fun a k => sv k rfl (r_ldb t13 m 0 hb3 6 k rfl rfl rfl rfl rfl) fun a k => oE h fun x35 hx36 h => cE k m call99 rfl rfl rfl (c_impl_in fu _ _ _  hx36) fun w38 e a k m => pN 2 k rfl fun a k => ?_
             have k := k.keep [2] rfl
             refine nn (wp_ret (fS h k m rfl rfl))
           have h := bif_f hb34 h
           refine rB k 31 rfl hb34 fun k => pN 5 k rfl fun a k => ?_
           have k := k.keep [2] rfl
           refine nn (wp_ret (fS h k m rfl rfl))
         have h := bif_f hb29 h
         refine rB k 26 rfl hb29 fun k => pN 10 k rfl fun a k => ?_
         have k := k.keep [2] rfl
         refine nn (wp_ret (fS h k m rfl rfl))
       have h := bif_f hb24 h
       refine rB k 21 rfl hb24 fun k => pN 15 k rfl fun a k => ?_
       have k := k.keep [2] rfl
       refine nn (wp_ret (fS h k m rfl rfl))
     have h := bif_f hb19 h
     refine rB k 16 rfl hb19 fun k => pN 20 k rfl fun a k => ?_
     have k := k.keep [2] rfl
     refine nn (wp_ret (fS h k m rfl rfl))
   have h := bif_f hb14 h
   refine rB k 11 rfl hb14 fun k => pN 25 k rfl fun a k => ?_
   have k := k.keep [2] rfl
   refine nn (wp_ret (fS h k m rfl rfl))
 have h := bif_f hb9 h
 refine rB k 6 rfl hb9 fun k => pN 30 k rfl fun a k => ?_
 have k := k.keep [2] rfl
 refine nn (wp_ret (fS h k m rfl rfl))
theorem c_impl_BoundsOk_2 (fu : Nat) {w0 : World} (t1 : Typ)  {r : Bool}
    (h : d_impl_BoundsOk_2 fu t1 = some r) :
    Calls Tryz.prog 202 #[.agg (Flat.e (t1)).toArray] w0 fun e w => e = .returned (.bool (r)) ∧ Ext [] w0 w := by
 refine enter (vs := [_]) func202 rfl ntmps202 rfl fun a k => ?_
 have m := St.start w0
 unfold d_impl_BoundsOk_2 at h
 refine wr (s_box (cs := [.int .i64 t1.fId, .int .i64 t1.fW, .int .i64 t1.fH, .int .i64 t1.fD, .int .i64 t1.fTare, .int .i64 t1.fGram, .int .i64 t1.fCost]) m k rfl rfl rfl rfl rfl rfl fun b2 w4 a k m e hb3 => pN 1 k rfl fun a k => nn (wr (sv k rfl (r_ldB ta92 m 0 hb3 0 k rfl rfl rfl rfl rfl rfl) fun a k => oE h fun x5 hx6 h => cE k m call203 rfl rfl rfl (c_impl_TypeOk fu (t1 : Typ)  hx6) fun w8 e a k m => pN 2 k rfl fun a k => nn (wp_ret (fS h k m rfl rfl)))))
theorem c_impl_ItemOk (fu : Nat) {w0 : World} (x1 : Item)  {r : Bool}
    (h : d_impl_ItemOk fu x1 = some r) :
    Calls Tryz.prog 204 #[.agg (Flat.e (x1)).toArray] w0 fun e w => e = .returned (.bool (r)) ∧ Ext [] w0 w := by
 refine enter (vs := [_]) func204 rfl ntmps204 rfl fun a k => ?_
 have m := St.start w0
 unfold d_impl_ItemOk at h
 refine wr (s_box (cs := [.int .i64 x1.fId, .int .i64 x1.fW, .int .i64 x1.fH, .int .i64 x1.fD, .int .i64 x1.fGram, .int .i64 x1.fClass, .int .i64 x1.fCount]) m k rfl rfl rfl rfl rfl rfl fun b2 w4 a k m e hb3 => pN 1 k rfl fun a k => nn (wr (sv k rfl (r_fa fa120_0 k rfl rfl) fun a k => sv k rfl (r_ldb t13 m 0 hb3 0 k rfl rfl rfl rfl rfl) fun a k => oE h fun x5 hx6 h => cE k m call99 rfl rfl rfl (c_impl_in fu _ _ _  hx6) fun w8 e a k m => pN 1 k rfl fun a k => bsplit (x5) (fun hb9 => ?_) (fun hb9 => ?_))))
 · have h := bif_t hb9 h
   refine rB k 6 rfl hb9 fun k => sv k rfl (r_fa fa120_1 k rfl rfl) fun a k => sv k rfl (r_ldb t13 m 0 hb3 1 k rfl rfl rfl rfl rfl) fun a k => oE h fun x10 hx11 h => cE k m call224 rfl rfl rfl (c_impl_isSide fu _  hx11) fun w13 e a k m => pN 2 k rfl fun a k => bsplit (x10) (fun hb14 => ?_) (fun hb14 => ?_)
   · have h := bif_t hb14 h
     refine rB k 11 rfl hb14 fun k => sv k rfl (r_fa fa120_2 k rfl rfl) fun a k => sv k rfl (r_ldb t13 m 0 hb3 2 k rfl rfl rfl rfl rfl) fun a k => oE h fun x15 hx16 h => cE k m call224 rfl rfl rfl (c_impl_isSide fu _  hx16) fun w18 e a k m => pN 2 k rfl fun a k => bsplit (x15) (fun hb19 => ?_) (fun hb19 => ?_)
     · have h := bif_t hb19 h
       refine rB k 16 rfl hb19 fun k => sv k rfl (r_fa fa120_3 k rfl rfl) fun a k => sv k rfl (r_ldb t13 m 0 hb3 3 k rfl rfl rfl rfl rfl) fun a k => oE h fun x20 hx21 h => cE k m call224 rfl rfl rfl (c_impl_isSide fu _  hx21) fun w23 e a k m => pN 2 k rfl fun a k => bsplit (x20) (fun hb24 => ?_) (fun hb24 => ?_)
       · have h := bif_t hb24 h
         refine rB k 21 rfl hb24 fun k => sv k rfl (r_fa fa120_4 k rfl rfl) fun a k => sv k rfl (r_ldb t13 m 0 hb3 4 k rfl rfl rfl rfl rfl) fun a k => oE h fun x25 hx26 h => cE k m call99 rfl rfl rfl (c_impl_in fu _ _ _  hx26) fun w28 e a k m => pN 2 k rfl fun a k => bsplit (x25) (fun hb29 => ?_) (fun hb29 => ?_)
         · have h := bif_t hb29 h
           refine rB k 26 rfl hb29 fun k => sv k rfl (r_fa fa120_5 k rfl rfl) fun a k => sv k rfl (r_ldb t13 m 0 hb3 5 k rfl rfl rfl rfl rfl) fun a k => oE h fun x30 hx31 h => cE k m call99 rfl rfl rfl (c_impl_in fu _ _ _  hx31) fun w33 e a k m => pN 2 k rfl fun a k => bsplit (x30) (fun hb34 => ?_) (fun hb34 => ?_)
           · have h := bif_t hb34 h
             refine rB k 31 rfl hb34 fun k => sv k rfl (r_fa fa120_6 k rfl rfl) fun a k => sv k rfl (r_ldb t13 m 0 hb3 6 k rfl rfl rfl rfl rfl) fun a k => oE h fun x35 hx36 h => cE k m call99 rfl rfl rfl (c_impl_in fu _ _ _  hx36) fun w38 e a k m => pN 2 k rfl fun a k => ?_
             have k := k.keep [2] rfl
             refine nn (wp_ret (fS h k m rfl rfl))
           have h := bif_f hb34 h
           refine rB k 31 rfl hb34 fun k => pN 5 k rfl fun a k => ?_
           have k := k.keep [2] rfl
           refine nn (wp_ret (fS h k m rfl rfl))
         have h := bif_f hb29 h
         refine rB k 26 rfl hb29 fun k => pN 10 k rfl fun a k => ?_
         have k := k.keep [2] rfl
         refine nn (wp_ret (fS h k m rfl rfl))
       have h := bif_f hb24 h
       refine rB k 21 rfl hb24 fun k => pN 15 k rfl fun a k => ?_
       have k := k.keep [2] rfl
       refine nn (wp_ret (fS h k m rfl rfl))
     have h := bif_f hb19 h
     refine rB k 16 rfl hb19 fun k => pN 20 k rfl fun a k => ?_
     have k := k.keep [2] rfl
     refine nn (wp_ret (fS h k m rfl rfl))
   have h := bif_f hb14 h
   refine rB k 11 rfl hb14 fun k => pN 25 k rfl fun a k => ?_
   have k := k.keep [2] rfl
   refine nn (wp_ret (fS h k m rfl rfl))
 have h := bif_f hb9 h
 refine rB k 6 rfl hb9 fun k => pN 30 k rfl fun a k => ?_
 have k := k.keep [2] rfl
 refine nn (wp_ret (fS h k m rfl rfl))
theorem c_impl_BoundsOk (fu : Nat) {w0 : World} (r1 : Request) {cs2 : List Value} {F3 : List Nat} (hp4 : rd w0 F3 cs2 r1) {r : Bool}
    (h : d_impl_BoundsOk fu r1 = some r) :
    Calls Tryz.prog 179 #[.agg cs2.toArray] w0 fun e w => e = .returned (.bool (r)) ∧ Ext [] w0 w := by
 refine enter (vs := [_]) func179 rfl ntmps179 rfl fun a k => ?_
 have m := St.start w0
 obtain ⟨v5, F6, v7, F8, v9, F10, rfl, rfl, hf11, hf12, hf13⟩ := hp4
 unfold d_impl_BoundsOk at h
 refine wr (s_box (cs := [.int .i64 r1.fWay, .int .i64 r1.fPallet.fW, .int .i64 r1.fPallet.fD, .int .i64 r1.fPallet.fH, .int .i64 r1.fPallet.fGram, .int .i64 r1.fClasses, v5, v7, .int .i64 r1.fMaster, v9]) m k rfl rfl rfl rfl rfl rfl fun b14 w16 a k m e hb15 => pN 1 k rfl fun a k => nn (c_cut (fun a w => K 70 [(1, .pointer (some (⟨b14, 0, none⟩ : Addr)))] a ∧ St [] w0 w [([b14], w16)] ∧ d_impl_BoundsOk_J2 fu r1 = some r) ?_ ?_))
 · rintro a w33 ⟨k, m, h⟩
   unfold d_impl_BoundsOk_J2 at h
   refine wp_seq (wr (sv k rfl (r_fa fa40_3 k rfl rfl) fun a k => sv k rfl (r_ldb t136 m 0 hb15 6 k rfl rfl rfl rfl rfl) fun a k => oE h fun x37 hx38 h => cE k m call200 rfl rfl rfl (c_slices_ContainsFunc_impl_Pair_impl_Pair fu _ _ (Enc.rd_agr hf11 (m.a00 (Enc.rd_lt hf11))) ⟨201, [], rfl, call201, fun w y34 v35 r e hv36 hx => by subst hv36; have m := m.step e; exact c_impl_BoundsOk_1 fu _  hx⟩ hx38) fun w40 e a k m => nn (cI h k rfl (fun hb41 h => ?_) fun hb41 h => ?_)))
   · refine wr (pN 1 k rfl fun a k => nn (wp_ret (rt_then ?_)))
     refine fS h k m rfl rfl
   refine wp_skip (nm_then ?_)
   refine c_cut (fun a w => K 70 [(1, .pointer (some (⟨b14, 0, none⟩ : Addr)))] a ∧ St [] w0 w [([b14], w16)] ∧ d_impl_BoundsOk_J1 fu r1 = some r) ?_ ?_
   · rintro a w61 ⟨k, m, h⟩
     unfold d_impl_BoundsOk_J1 at h
     refine wr (pN 1 k rfl fun a k => nn (wp_seq (wr (sv k rfl (r_fa fa40_6 k rfl rfl) fun a k => sv k rfl (r_ldb t138 m 0 hb15 9 k rfl rfl rfl rfl rfl) fun a k => sv k rfl (r_len (α := Item) hf13 k underlying38 rfl rfl) fun a k => pN 1 k rfl fun a k => nn (wp_block (c_loop (fun n a w => ∃ (units93 : Int) (x94 : Int), K 70 [(3, .int .i64 units93), (54, v9), (55, .int .i64 ((r1.fItems.length : Int))), (56, .int .i64 x94)] a ∧ St [] w0 w [] ∧ d_impl_BoundsOk_L1 fu r1 n units93 x94 = some r) ?_ ?_ fu _ _ ?_))))))
     · rintro a w ⟨_, _, _, _, h⟩
       exact nS h
     · rintro m95 a w92 ⟨units93, x94, k, m, h⟩
       rw [d_impl_BoundsOk_L1_s] at h
       unfold d_impl_BoundsOk_L1_B at h
       refine wr (pN 1 k rfl fun a k => nn (wp_seq (cI h k rfl (fun hb96 h => ?_) fun hb96 h => ?_)))
       · refine wp_skip (nm_then ?_)
         refine wp_seq (wp_block (wr (oE h fun x97 hx98 h => sv k rfl (r_ixa hf13 hx98 k ts38 rfl rfl rfl) fun a k => sv k rfl (r_lde hf13 (m.a00 (Enc.rd_lt hf13)) hx98 ta120 k rfl rfl) fun a k => s_alloc (cs := [.int .i64 0, .int .i64 0, .int .i64 0, .int .i64 0, .int .i64 0, .int .i64 0, .int .i64 0]) m k zeroValue120 rfl rfl rfl rfl rfl fun b99 w101 a k m e hb100 => s_stb (cs' := [.int .i64 x97.fId, .int .i64 x97.fW, .int .i64 x97.fH, .int .i64 x97.fD, .int .i64 x97.fGram, .int .i64 x97.fClass, .int .i64 x97.fCount]) sizeOf120 m 0 hb100 0 k rfl rfl rfl rfl rfl rfl rfl rfl rfl rfl rfl fun w102 a k e m hb103 => nn (wp_seq (wr (sv k rfl (r_ldB ta120 m 0 hb103 0 k rfl rfl rfl rfl rfl rfl) fun a k => oE h fun x104 hx105 h => cE k m call204 rfl rfl rfl (c_impl_ItemOk fu (x97 : Item)  hx105) fun w107 e a k m => ?_))))))
         refine pN 1 k rfl fun a k => nn (cI h k rfl (fun hb108 h => ?_) fun hb108 h => ?_)
         · refine wr (pN 1 k rfl fun a k => nn (wp_ret (rt_then (rt_block (rt_then (rt_then (rt_block (rt_then ?_))))))))
           refine fS h k m rfl rfl
         refine wp_skip (nm_then ?_)
         refine wp_region_lit (pN 1 k rfl fun a k => sv k rfl (r_fa fa120_6 k rfl rfl) fun a k => sv k rfl (r_ldb t13 m 0 hb103 6 k rfl rfl rfl rfl rfl) fun a k => pN 2 k rfl fun a k => wpList_nil (nm_block (nm_then ?_)))
         refine wp_region_lit (pN 2 k rfl fun a k => nn ?_)
         exact ⟨w64 (units93 + x97.fCount), w64 (x94 + 1), k.keep [3, 54, 55, 56] rfl, m.sel [] rfl (by decide), h⟩
       refine wp_exit (ex_then (ex_then (ex_same (nm_then ?_))))
       refine wr (pN 3 k rfl fun a k => nn (wp_ret (fS h k m rfl rfl)))
     exact ⟨0, 0, k.keep [3, 54, 55, 56] rfl, m.sel [] rfl (by decide), h⟩
   refine wr (sv k rfl (r_fa fa40_4 k rfl rfl) fun a k => sv k rfl (r_ldb t137 m 0 hb15 7 k rfl rfl rfl rfl rfl) fun a k => sv k rfl (r_len (α := Typ) hf12 k underlying37 rfl rfl) fun a k => oE h fun x109 hx110 h => cE k m call99 rfl rfl rfl (c_impl_in fu _ _ _  hx110) fun w112 e a k m => pN 2 k rfl fun a k => bsplit (!x109) (fun hb113 => ?_) (fun hb113 => ?_))
   · have h := bif_t hb113 h
     refine rB k 36 rfl hb113 fun k => pN 16 k rfl fun a k => ?_
     have k := k.keep [1, 52] rfl
     refine nn (wp_cond_true (k.ev rfl) (wr (pN 1 k rfl fun a k => nn (wp_ret (rt_then ?_)))))
     refine fS h k m rfl rfl
   have h := bif_f hb113 h
   refine rB k 36 rfl hb113 fun k => sv k rfl (r_fa fa40_4 k rfl rfl) fun a k => sv k rfl (r_ldb t137 m 0 hb15 7 k rfl rfl rfl rfl rfl) fun a k => oE h fun x117 hx118 h => cE k m call184 rfl rfl rfl (c_slices_ContainsFunc_impl_Type_impl_Type fu _ _ (Enc.rd_agr hf12 (m.a00 (Enc.rd_lt hf12))) ⟨202, [], rfl, call202, fun w y114 v115 r e hv116 hx => by subst hv116; have m := m.step e; exact c_impl_BoundsOk_2 fu _  hx⟩ hx118) fun w120 e a k m => pN 2 k rfl fun a k => bsplit (x117) (fun hb121 => ?_) (fun hb121 => ?_)
   · have h := bif_t hb121 h
     refine rB k 41 rfl hb121 fun k => pN 11 k rfl fun a k => ?_
     have k := k.keep [1, 52] rfl
     refine nn (wp_cond_true (k.ev rfl) (wr (pN 1 k rfl fun a k => nn (wp_ret (rt_then ?_)))))
     refine fS h k m rfl rfl
   have h := bif_f hb121 h
   refine rB k 41 rfl hb121 fun k => sv k rfl (r_fa fa40_5 k rfl rfl) fun a k => sv k rfl (r_ldb t13 m 0 hb15 8 k rfl rfl rfl rfl rfl) fun a k => oE h fun x122 hx123 h => cE k m call99 rfl rfl rfl (c_impl_in fu _ _ _  hx123) fun w125 e a k m => pN 3 k rfl fun a k => bsplit (!x122) (fun hb126 => ?_) (fun hb126 => ?_)
   · have h := bif_t hb126 h
     refine rB k 47 rfl hb126 fun k => pN 5 k rfl fun a k => ?_
     have k := k.keep [1, 52] rfl
     refine nn (wp_cond_true (k.ev rfl) (wr (pN 1 k rfl fun a k => nn (wp_ret (rt_then ?_)))))
     refine fS h k m rfl rfl
   have h := bif_f hb126 h
   refine rB k 47 rfl hb126 fun k => sv k rfl (r_fa fa40_6 k rfl rfl) fun a k => sv k rfl (r_ldb t138 m 0 hb15 9 k rfl rfl rfl rfl rfl) fun a k => sv k rfl (r_len (α := Item) hf13 k underlying38 rfl rfl) fun a k => pN 2 k rfl fun a k => ?_
   have k := k.keep [1, 52] rfl
   refine nn (cI h k rfl (fun hb127 h => ?_) fun hb127 h => ?_)
   · refine wr (pN 1 k rfl fun a k => nn (wp_ret (rt_then ?_)))
     refine fS h k m rfl rfl
   refine wp_skip (nm_then ?_)
   exact ⟨k.keep [1] rfl, m.sel [0] rfl (by decide), h⟩
 refine wr (sv k rfl (r_fa fa40_0 k rfl rfl) fun a k => sv k rfl (r_ldb t13 m 0 hb15 0 k rfl rfl rfl rfl rfl) fun a k => oE h fun x128 hx129 h => cE k m call99 rfl rfl rfl (c_impl_in fu _ _ _  hx129) fun w131 e a k m => pN 2 k rfl fun a k => bsplit (!x128) (fun hb132 => ?_) (fun hb132 => ?_))
 · have h := bif_t hb132 h
   refine rB k 10 rfl hb132 fun k => pN 17 k rfl fun a k => nn (wp_cond_true (k.ev rfl) (wr (pN 1 k rfl fun a k => ?_)))
   have k := k.keep [2] rfl
   refine nn (wp_ret (rt_then ?_))
   refine fS h k m rfl rfl
 have h := bif_f hb132 h
 refine rB k 10 rfl hb132 fun k => sv k rfl (r_fa fa40_1 k rfl rfl) fun a k => sv k rfl (r_ldB ta35 m 0 hb15 1 k rfl rfl rfl rfl rfl rfl) fun a k => oE h fun x133 hx134 h => cE k m call199 rfl rfl rfl (c_impl_PalletOk fu (r1.fPallet : Pallet)  hx134) fun w136 e a k m => pN 3 k rfl fun a k => bsplit (!x133) (fun hb137 => ?_) (fun hb137 => ?_)
 · have h := bif_t hb137 h
   refine rB k 16 rfl hb137 fun k => pN 11 k rfl fun a k => nn (wp_cond_true (k.ev rfl) (wr (pN 1 k rfl fun a k => ?_)))
   have k := k.keep [2] rfl
   refine nn (wp_ret (rt_then ?_))
   refine fS h k m rfl rfl
 have h := bif_f hb137 h
 refine rB k 16 rfl hb137 fun k => sv k rfl (r_fa fa40_2 k rfl rfl) fun a k => sv k rfl (r_ldb t13 m 0 hb15 5 k rfl rfl rfl rfl rfl) fun a k => oE h fun x138 hx139 h => cE k m call99 rfl rfl rfl (c_impl_in fu _ _ _  hx139) fun w141 e a k m => pN 3 k rfl fun a k => bsplit (!x138) (fun hb142 => ?_) (fun hb142 => ?_)
 · have h := bif_t hb142 h
   refine rB k 22 rfl hb142 fun k => pN 5 k rfl fun a k => nn (wp_cond_true (k.ev rfl) (wr (pN 1 k rfl fun a k => ?_)))
   have k := k.keep [2] rfl
   refine nn (wp_ret (rt_then ?_))
   refine fS h k m rfl rfl
 have h := bif_f hb142 h
 refine rB k 22 rfl hb142 fun k => sv k rfl (r_fa fa40_3 k rfl rfl) fun a k => sv k rfl (r_ldb t136 m 0 hb15 6 k rfl rfl rfl rfl rfl) fun a k => sv k rfl (r_len (α := Pair) hf11 k underlying36 rfl rfl) fun a k => pN 2 k rfl fun a k => nn (cI h k rfl (fun hb143 h => ?_) fun hb143 h => ?_)
 · refine wr (pN 1 k rfl fun a k => ?_)
   have k := k.keep [2] rfl
   refine nn (wp_ret (rt_then ?_))
   refine fS h k m rfl rfl
 refine wp_skip (nm_then ?_)
 exact ⟨k.keep [1] rfl, m.sel [0] rfl (by decide), h⟩

end Go.Proofs.YthjbcfefkdbgoaaGreat
