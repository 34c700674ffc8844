/- FnExactMixes: the walks of functions that the law reaches, part 3. Printed by gen.py. -/
import Derived.Test.YthjbcfefkdbgoaaGreatExactMixesW2
set_option maxRecDepth 20000
set_option linter.unusedSimpArgs false
set_option linter.unusedVariables false
namespace Go.Proofs.YthjbcfefkdbgoaaGreat
open Go Go.RowKit
open Enc (rd ow)
open Arg (argv)
open Ret (retv)
open Go.Proofs.Tryz

theorem bt120 : BT Tryz.prog 120 [.int .i64 0, .int .i64 0, .int .i64 0, .int .i64 0, .int .i64 0, .int .i64 0, .int .i64 0] #[(0, 1), (1, 1), (2, 1), (3, 1), (4, 1), (5, 1), (6, 1)] := ⟨zeroValue120, _, underlying120, fun w => by simp [sizeOf3]⟩

def d_spec_GroupsOf (fu : Nat) (r1 : Request) : Option ((List (List Int))) :=
  obind (d_spec_Present fu r1) fun x18 => obind (d_spec_Groups fu r1.fPairs x18) fun x28 => some (x28)

def d_spec_l6Item (fu : Nat) (r1 : Request) (units5 : List Int) (u9 : Int) : Option (Item × Bool) :=
  obind (d_spec_l1In fu u9 0 (w64 (((units5.length : Int)) - 1))) fun x25 => bif (!x25) then some ((⟨0, 0, 0, 0, 0, 0, 0⟩ : Item), false) else obind (ix units5 u9) fun x33 => obind (ix r1.fItems x33) fun x35 => some (x35, true)

def d_spec_GroupOf_L1_B (fu : Nat)  (groups1 : List (List Int)) (class5 : Int) (k1 : Int → Option (Int)) (i40 : Int) : Option (Int) :=
  bif (decide (i40 < ((groups1.length : Int)))) then obind (ix groups1 i40) fun x43 => obind (d_spec_l1Has fu x43 class5) fun x52 => bif x52 then some (i40) else k1 (w64 (i40 + 1)) else some ((-1))
def d_spec_GroupOf_L1 (fu : Nat)  (groups1 : List (List Int)) (class5 : Int) : Nat → Int → Option (Int)
  | 0 => fun _ => none
  | n + 1 => d_spec_GroupOf_L1_B fu groups1 class5 (d_spec_GroupOf_L1 fu groups1 class5 n)
theorem d_spec_GroupOf_L1_s (fu : Nat)  (groups1 : List (List Int)) (class5 : Int) (n : Nat) : d_spec_GroupOf_L1 fu groups1 class5 (n + 1) = d_spec_GroupOf_L1_B fu groups1 class5 (d_spec_GroupOf_L1 fu groups1 class5 n) := rfl

def d_spec_GroupOf (fu : Nat) (groups1 : List (List Int)) (class5 : Int) : Option (Int) :=
  d_spec_GroupOf_L1 fu groups1 class5 fu 0

def d_spec_Mixes_J1 (fu : Nat) (k403 : Int → Option (Bool)) (i23531 : Int)  : Option (Bool) :=
  k403 (w64 (i23531 + 1))

def d_spec_Mixes_J2 (fu : Nat) (k571 : Int → Option (Bool)) (a33320 : Int)  : Option (Bool) :=
  k571 (w64 (a33320 + 1))

def d_spec_Mixes_J3 (fu : Nat) (k599 : Int → Option (Bool)) (b34953 : Int)  : Option (Bool) :=
  k599 (w64 (b34953 + 1))

def d_spec_Mixes_J4 (fu : Nat) (k599 : Int → Option (Bool)) (x30 : (List (List Int))) (b34953 : Int) (i35155 : Item) (okX35156 : Bool) (i35195 : Item) (okY35196 : Bool) : Option (Bool) :=
  bif okX35156 then bif okY35196 then obind (d_spec_GroupOf fu x30 i35155.fClass) fun x35200 => obind (d_spec_GroupOf fu x30 i35195.fClass) fun x35204 => bif (x35200 != x35204) then some (true) else d_spec_Mixes_J3 fu k599 b34953 else d_spec_Mixes_J3 fu k599 b34953 else d_spec_Mixes_J3 fu k599 b34953

def d_spec_Mixes_J5 (fu : Nat) (k599 : Int → Option (Bool)) (r1 : Request) (cartons5 : List (List Int)) (x21 : (List Int)) (x30 : (List (List Int))) (i23531 : Int) (b34953 : Int) (i35155 : Item) (okX35156 : Bool) : Option (Bool) :=
  obind (ix cartons5 i23531) fun x35210 => obind (ix x35210 b34953) fun x35219 => obind (d_spec_l6Item fu r1 x21 x35219) fun x35221 => d_spec_Mixes_J4 fu k599 x30 b34953 i35155 okX35156 x35221.1 x35221.2

def d_spec_Mixes_L1_B (fu : Nat) (k571 : Int → Option (Bool)) (r1 : Request) (cartons5 : List (List Int)) (x21 : (List Int)) (x30 : (List (List Int))) (i23531 : Int) (a33320 : Int) (k599 : Int → Option (Bool)) (b34953 : Int) : Option (Bool) :=
  bif (decide (b34953 < a33320)) then obind (ix cartons5 i23531) fun x35244 => obind (ix x35244 a33320) fun x35253 => obind (d_spec_l6Item fu r1 x21 x35253) fun x35255 => d_spec_Mixes_J5 fu k599 r1 cartons5 x21 x30 i23531 b34953 x35255.1 x35255.2 else d_spec_Mixes_J2 fu k571 a33320
def d_spec_Mixes_L1 (fu : Nat) (k571 : Int → Option (Bool)) (r1 : Request) (cartons5 : List (List Int)) (x21 : (List Int)) (x30 : (List (List Int))) (i23531 : Int) (a33320 : Int) : Nat → Int → Option (Bool)
  | 0 => fun _ => none
  | n + 1 => d_spec_Mixes_L1_B fu k571 r1 cartons5 x21 x30 i23531 a33320 (d_spec_Mixes_L1 fu k571 r1 cartons5 x21 x30 i23531 a33320 n)
theorem d_spec_Mixes_L1_s (fu : Nat) (k571 : Int → Option (Bool)) (r1 : Request) (cartons5 : List (List Int)) (x21 : (List Int)) (x30 : (List (List Int))) (i23531 : Int) (a33320 : Int) (n : Nat) : d_spec_Mixes_L1 fu k571 r1 cartons5 x21 x30 i23531 a33320 (n + 1) = d_spec_Mixes_L1_B fu k571 r1 cartons5 x21 x30 i23531 a33320 (d_spec_Mixes_L1 fu k571 r1 cartons5 x21 x30 i23531 a33320 n) := rfl

def d_spec_Mixes_L2_B (fu : Nat) (k403 : Int → Option (Bool)) (r1 : Request) (cartons5 : List (List Int)) (x21 : (List Int)) (x30 : (List (List Int))) (i23531 : Int) (k571 : Int → Option (Bool)) (a33320 : Int) : Option (Bool) :=
  obind (ix cartons5 i23531) fun x33322 => bif (decide (a33320 < ((x33322.length : Int)))) then d_spec_Mixes_L1 fu k571 r1 cartons5 x21 x30 i23531 a33320 fu 0 else d_spec_Mixes_J1 fu k403 i23531
def d_spec_Mixes_L2 (fu : Nat) (k403 : Int → Option (Bool)) (r1 : Request) (cartons5 : List (List Int)) (x21 : (List Int)) (x30 : (List (List Int))) (i23531 : Int) : Nat → Int → Option (Bool)
  | 0 => fun _ => none
  | n + 1 => d_spec_Mixes_L2_B fu k403 r1 cartons5 x21 x30 i23531 (d_spec_Mixes_L2 fu k403 r1 cartons5 x21 x30 i23531 n)
theorem d_spec_Mixes_L2_s (fu : Nat) (k403 : Int → Option (Bool)) (r1 : Request) (cartons5 : List (List Int)) (x21 : (List Int)) (x30 : (List (List Int))) (i23531 : Int) (n : Nat) : d_spec_Mixes_L2 fu k403 r1 cartons5 x21 x30 i23531 (n + 1) = d_spec_Mixes_L2_B fu k403 r1 cartons5 x21 x30 i23531 (d_spec_Mixes_L2 fu k403 r1 cartons5 x21 x30 i23531 n) := rfl

def d_spec_Mixes_L3_B (fu : Nat)  (r1 : Request) (cartons5 : List (List Int)) (x21 : (List Int)) (x30 : (List (List Int))) (k403 : Int → Option (Bool)) (i23531 : Int) : Option (Bool) :=
  bif (decide (i23531 < ((cartons5.length : Int)))) then d_spec_Mixes_L2 fu k403 r1 cartons5 x21 x30 i23531 fu 0 else some (false)
def d_spec_Mixes_L3 (fu : Nat)  (r1 : Request) (cartons5 : List (List Int)) (x21 : (List Int)) (x30 : (List (List Int))) : Nat → Int → Option (Bool)
  | 0 => fun _ => none
  | n + 1 => d_spec_Mixes_L3_B fu r1 cartons5 x21 x30 (d_spec_Mixes_L3 fu r1 cartons5 x21 x30 n)
theorem d_spec_Mixes_L3_s (fu : Nat)  (r1 : Request) (cartons5 : List (List Int)) (x21 : (List Int)) (x30 : (List (List Int))) (n : Nat) : d_spec_Mixes_L3 fu r1 cartons5 x21 x30 (n + 1) = d_spec_Mixes_L3_B fu r1 cartons5 x21 x30 (d_spec_Mixes_L3 fu r1 cartons5 x21 x30 n) := rfl

def d_spec_Mixes (fu : Nat) (r1 : Request) (cartons5 : List (List Int)) : Option (Bool) :=
  obind (d_spec_Units fu r1) fun x21 => obind (d_spec_GroupsOf fu r1) fun x30 => d_spec_Mixes_L3 fu r1 cartons5 x21 x30 fu 0

def d_impl_TypeById_1 (fu : Nat) (t1 : Typ) (x2 : Int) : Option (Bool) :=
  some (t1.fId == x2)

def d_slices_IndexFunc_impl_Type_impl_Type_L1_B (fu : Nat)  (sv1 : List Typ) (f5 : Typ → Option Bool) (k1 : Int → Option (Int)) (x32 : Int) : Option (Int) :=
  bif (decide (x32 < ((sv1.length : Int)))) then obind (ix sv1 x32) fun x35 => obind (f5 x35) fun x37 => bif x37 then some (x32) else k1 (w64 (x32 + 1)) else some ((-1))
def d_slices_IndexFunc_impl_Type_impl_Type_L1 (fu : Nat)  (sv1 : List Typ) (f5 : Typ → Option Bool) : Nat → Int → Option (Int)
  | 0 => fun _ => none
  | n + 1 => d_slices_IndexFunc_impl_Type_impl_Type_L1_B fu sv1 f5 (d_slices_IndexFunc_impl_Type_impl_Type_L1 fu sv1 f5 n)
theorem d_slices_IndexFunc_impl_Type_impl_Type_L1_s (fu : Nat)  (sv1 : List Typ) (f5 : Typ → Option Bool) (n : Nat) : d_slices_IndexFunc_impl_Type_impl_Type_L1 fu sv1 f5 (n + 1) = d_slices_IndexFunc_impl_Type_impl_Type_L1_B fu sv1 f5 (d_slices_IndexFunc_impl_Type_impl_Type_L1 fu sv1 f5 n) := rfl

def d_slices_IndexFunc_impl_Type_impl_Type (fu : Nat) (sv1 : List Typ) (f5 : Typ → Option Bool) : Option (Int) :=
  d_slices_IndexFunc_impl_Type_impl_Type_L1 fu sv1 f5 fu 0

def d_impl_TypeById (fu : Nat) (r1 : Request) (id5 : Int) : Option (Typ × Bool) :=
  obind (d_slices_IndexFunc_impl_Type_impl_Type fu r1.fTypes (fun y24 => d_impl_TypeById_1 fu y24 id5)) fun x27 => bif (decide (x27 < 0)) then some ((⟨0, 0, 0, 0, 0, 0, 0⟩ : Typ), false) else obind (ix r1.fTypes x27) fun x34 => some (x34, true)

def d_impl_MasterOf (fu : Nat) (r1 : Request) : Option (Typ × Bool) :=
  obind (d_impl_TypeById fu r1 r1.fMaster) fun x20 => some (x20.1, x20.2)

def d_impl_in (fu : Nat) (n1 : Int) (lo2 : Int) (hi3 : Int) : Option (Bool) :=
  bif (decide (n1 ≥ lo2)) then some (decide (n1 ≤ hi3)) else some (false)

def d_impl_isSide (fu : Nat) (n1 : Int) : Option (Bool) :=
  obind (d_impl_in fu n1 1 2000) fun x2 => some (x2)

def d_impl_PalletOk (fu : Nat) (x1 : Pallet) : Option (Bool) :=
  obind (d_impl_isSide fu x1.fW) fun x5 => bif x5 then obind (d_impl_isSide fu x1.fD) fun x10 => bif x10 then obind (d_impl_isSide fu x1.fH) fun x15 => bif x15 then obind (d_impl_in fu x1.fGram 1 100000) fun x20 => some (x20) else some (false) else some (false) else some (false)

def d_slices_IndexFunc_impl_Pair_impl_Pair_L1_B (fu : Nat)  (sv1 : List Pair) (f5 : Pair → Option Bool) (k1 : Int → Option (Int)) (x32 : Int) : Option (Int) :=
  bif (decide (x32 < ((sv1.length : Int)))) then obind (ix sv1 x32) fun x35 => obind (f5 x35) fun x37 => bif x37 then some (x32) else k1 (w64 (x32 + 1)) else some ((-1))
def d_slices_IndexFunc_impl_Pair_impl_Pair_L1 (fu : Nat)  (sv1 : List Pair) (f5 : Pair → Option Bool) : Nat → Int → Option (Int)
  | 0 => fun _ => none
  | n + 1 => d_slices_IndexFunc_impl_Pair_impl_Pair_L1_B fu sv1 f5 (d_slices_IndexFunc_impl_Pair_impl_Pair_L1 fu sv1 f5 n)
theorem d_slices_IndexFunc_impl_Pair_impl_Pair_L1_s (fu : Nat)  (sv1 : List Pair) (f5 : Pair → Option Bool) (n : Nat) : d_slices_IndexFunc_impl_Pair_impl_Pair_L1 fu sv1 f5 (n + 1) = d_slices_IndexFunc_impl_Pair_impl_Pair_L1_B fu sv1 f5 (d_slices_IndexFunc_impl_Pair_impl_Pair_L1 fu sv1 f5 n) := rfl

def d_slices_IndexFunc_impl_Pair_impl_Pair (fu : Nat) (sv1 : List Pair) (f5 : Pair → Option Bool) : Option (Int) :=
  d_slices_IndexFunc_impl_Pair_impl_Pair_L1 fu sv1 f5 fu 0

def d_slices_ContainsFunc_impl_Pair_impl_Pair (fu : Nat) (sv1 : List Pair) (f5 : Pair → Option Bool) : Option (Bool) :=
  obind (d_slices_IndexFunc_impl_Pair_impl_Pair fu sv1 f5) fun x14 => some (decide (x14 ≥ 0))

def d_impl_BoundsOk_1 (fu : Nat) (p1 : Pair) : Option (Bool) :=
  obind (d_impl_in fu p1.fA 0 3) fun x5 => bif (!x5) then some (true) else obind (d_impl_in fu p1.fB 0 3) fun x10 => some (!x10)

def d_slices_ContainsFunc_impl_Type_impl_Type (fu : Nat) (sv1 : List Typ) (f5 : Typ → Option Bool) : Option (Bool) :=
  obind (d_slices_IndexFunc_impl_Type_impl_Type fu sv1 f5) fun x14 => some (decide (x14 ≥ 0))

def d_impl_TypeOk (fu : Nat) (x1 : Typ) : Option (Bool) :=
  obind (d_impl_in fu x1.fId 0 999) fun x5 => bif x5 then obind (d_impl_isSide fu x1.fW) fun x10 => bif x10 then obind (d_impl_isSide fu x1.fH) fun x15 => bif x15 then obind (d_impl_isSide fu x1.fD) fun x20 => bif x20 then obind (d_impl_in fu x1.fTare 0 100000) fun x25 => bif x25 then obind (d_impl_in fu x1.fGram 1 100000) fun x30 => bif x30 then obind (d_impl_in fu x1.fCost 0 100000) fun x35 => some (x35) else some (false) else some (false) else some (false) else some (false) else some (false) else some (false)

def d_impl_BoundsOk_2 (fu : Nat) (t1 : Typ) : Option (Bool) :=
  obind (d_impl_TypeOk fu t1) fun x5 => some (!x5)

def d_impl_ItemOk (fu : Nat) (x1 : Item) : Option (Bool) :=
  obind (d_impl_in fu x1.fId 0 999) fun x5 => bif x5 then obind (d_impl_isSide fu x1.fW) fun x10 => bif x10 then obind (d_impl_isSide fu x1.fH) fun x15 => bif x15 then obind (d_impl_isSide fu x1.fD) fun x20 => bif x20 then obind (d_impl_in fu x1.fGram 1 100000) fun x25 => bif x25 then obind (d_impl_in fu x1.fClass 0 3) fun x30 => bif x30 then obind (d_impl_in fu x1.fCount 1 6) fun x35 => some (x35) else some (false) else some (false) else some (false) else some (false) else some (false) else some (false)

def d_impl_BoundsOk_L1_B (fu : Nat)  (r1 : Request) (k3 : Int → Int → Option (Bool)) (units93 : Int) (x94 : Int) : Option (Bool) :=
  bif (decide (x94 < ((r1.fItems.length : Int)))) then obind (ix r1.fItems x94) fun x97 => obind (d_impl_ItemOk fu x97) fun x104 => bif (!x104) then some (false) else k3 (w64 (units93 + x97.fCount)) (w64 (x94 + 1)) else some (decide (units93 ≤ 12))
def d_impl_BoundsOk_L1 (fu : Nat)  (r1 : Request) : Nat → Int → Int → Option (Bool)
  | 0 => fun _ _ => none
  | n + 1 => d_impl_BoundsOk_L1_B fu r1 (d_impl_BoundsOk_L1 fu r1 n)
theorem d_impl_BoundsOk_L1_s (fu : Nat)  (r1 : Request) (n : Nat) : d_impl_BoundsOk_L1 fu r1 (n + 1) = d_impl_BoundsOk_L1_B fu r1 (d_impl_BoundsOk_L1 fu r1 n) := rfl

def d_impl_BoundsOk_J1 (fu : Nat) (r1 : Request)  : Option (Bool) :=
  d_impl_BoundsOk_L1 fu r1 fu 0 0

def d_impl_BoundsOk_J2 (fu : Nat) (r1 : Request)  : Option (Bool) :=
  obind (d_slices_ContainsFunc_impl_Pair_impl_Pair fu r1.fPairs (fun y34 => d_impl_BoundsOk_1 fu y34)) fun x37 => bif x37 then some (false) else obind (d_impl_in fu ((r1.fTypes.length : Int)) 1 5) fun x109 => bif (!x109) then some (false) else obind (d_slices_ContainsFunc_impl_Type_impl_Type fu r1.fTypes (fun y114 => d_impl_BoundsOk_2 fu y114)) fun x117 => bif x117 then some (false) else obind (d_impl_in fu r1.fMaster 0 999) fun x122 => bif (!x122) then some (false) else bif (decide (((r1.fItems.length : Int)) > 8)) then some (false) else d_impl_BoundsOk_J1 fu r1

def d_impl_BoundsOk (fu : Nat) (r1 : Request) : Option (Bool) :=
  obind (d_impl_in fu r1.fWay 0 1) fun x128 => bif (!x128) then some (false) else obind (d_impl_PalletOk fu r1.fPallet) fun x133 => bif (!x133) then some (false) else obind (d_impl_in fu r1.fClasses 1 4) fun x138 => bif (!x138) then some (false) else bif (decide (((r1.fPairs.length : Int)) > 16)) then some (false) else d_impl_BoundsOk_J2 fu r1

def d_impl_namesOk_1 (fu : Nat) (q1 : Typ) (x2 : Typ) : Option (Bool) :=
  some (q1.fId == x2.fId)

def d_impl_namesOk_2 (fu : Nat) (q1 : Item) (x2 : Item) : Option (Bool) :=
  some (q1.fId == x2.fId)

def d_slices_IndexFunc_impl_Item_impl_Item_L1_B (fu : Nat)  (sv1 : List Item) (f5 : Item → Option Bool) (k1 : Int → Option (Int)) (x32 : Int) : Option (Int) :=
  bif (decide (x32 < ((sv1.length : Int)))) then obind (ix sv1 x32) fun x35 => obind (f5 x35) fun x37 => bif x37 then some (x32) else k1 (w64 (x32 + 1)) else some ((-1))
def d_slices_IndexFunc_impl_Item_impl_Item_L1 (fu : Nat)  (sv1 : List Item) (f5 : Item → Option Bool) : Nat → Int → Option (Int)
  | 0 => fun _ => none
  | n + 1 => d_slices_IndexFunc_impl_Item_impl_Item_L1_B fu sv1 f5 (d_slices_IndexFunc_impl_Item_impl_Item_L1 fu sv1 f5 n)
theorem d_slices_IndexFunc_impl_Item_impl_Item_L1_s (fu : Nat)  (sv1 : List Item) (f5 : Item → Option Bool) (n : Nat) : d_slices_IndexFunc_impl_Item_impl_Item_L1 fu sv1 f5 (n + 1) = d_slices_IndexFunc_impl_Item_impl_Item_L1_B fu sv1 f5 (d_slices_IndexFunc_impl_Item_impl_Item_L1 fu sv1 f5 n) := rfl

def d_slices_IndexFunc_impl_Item_impl_Item (fu : Nat) (sv1 : List Item) (f5 : Item → Option Bool) : Option (Int) :=
  d_slices_IndexFunc_impl_Item_impl_Item_L1 fu sv1 f5 fu 0

def d_slices_ContainsFunc_impl_Item_impl_Item (fu : Nat) (sv1 : List Item) (f5 : Item → Option Bool) : Option (Bool) :=
  obind (d_slices_IndexFunc_impl_Item_impl_Item fu sv1 f5) fun x14 => some (decide (x14 ≥ 0))

def d_impl_namesOk_3 (fu : Nat) (p1 : Pair) (x2 : Request) : Option (Bool) :=
  bif (decide (p1.fA ≥ x2.fClasses)) then some (true) else some (decide (p1.fB ≥ x2.fClasses))

def d_impl_namesOk_J1 (fu : Nat) (k4 : Int → Option (Bool)) (x178 : Int)  : Option (Bool) :=
  k4 (w64 (x178 + 1))

def d_impl_namesOk_L1_B (fu : Nat)  (r1 : Request) (k4 : Int → Option (Bool)) (x178 : Int) : Option (Bool) :=
  bif (decide (x178 < ((r1.fItems.length : Int)))) then obind (ix r1.fItems x178) fun x203 => bif (decide (x203.fClass ≥ r1.fClasses)) then some (false) else obind (sls r1.fItems 0 x178) fun x211 => obind (d_slices_ContainsFunc_impl_Item_impl_Item fu x211 (fun y216 => d_impl_namesOk_2 fu y216 x203)) fun x219 => bif x219 then some (false) else d_impl_namesOk_J1 fu k4 x178 else obind (d_impl_MasterOf fu r1) fun x224 => bif x224.2 then obind (d_slices_ContainsFunc_impl_Pair_impl_Pair fu r1.fPairs (fun y234 => d_impl_namesOk_3 fu y234 r1)) fun x237 => some (!x237) else some (false)
def d_impl_namesOk_L1 (fu : Nat)  (r1 : Request) : Nat → Int → Option (Bool)
  | 0 => fun _ => none
  | n + 1 => d_impl_namesOk_L1_B fu r1 (d_impl_namesOk_L1 fu r1 n)
theorem d_impl_namesOk_L1_s (fu : Nat)  (r1 : Request) (n : Nat) : d_impl_namesOk_L1 fu r1 (n + 1) = d_impl_namesOk_L1_B fu r1 (d_impl_namesOk_L1 fu r1 n) := rfl

def d_impl_namesOk_L2_B (fu : Nat)  (r1 : Request) (k1 : Int → Option (Bool)) (x63 : Int) : Option (Bool) :=
  bif (decide (x63 < ((r1.fTypes.length : Int)))) then obind (ix r1.fTypes x63) fun x66 => obind (sls r1.fTypes 0 x63) fun x73 => obind (d_slices_ContainsFunc_impl_Type_impl_Type fu x73 (fun y78 => d_impl_namesOk_1 fu y78 x66)) fun x81 => bif x81 then some (false) else k1 (w64 (x63 + 1)) else d_impl_namesOk_L1 fu r1 fu 0
def d_impl_namesOk_L2 (fu : Nat)  (r1 : Request) : Nat → Int → Option (Bool)
  | 0 => fun _ => none
  | n + 1 => d_impl_namesOk_L2_B fu r1 (d_impl_namesOk_L2 fu r1 n)
theorem d_impl_namesOk_L2_s (fu : Nat)  (r1 : Request) (n : Nat) : d_impl_namesOk_L2 fu r1 (n + 1) = d_impl_namesOk_L2_B fu r1 (d_impl_namesOk_L2 fu r1 n) := rfl

def d_impl_namesOk (fu : Nat) (r1 : Request) : Option (Bool) :=
  d_impl_namesOk_L2 fu r1 fu 0

theorem c_spec_GroupsOf (fu : Nat) {w0 : World} (r1 : Request) {cs2 : List Value} {F3 : List Nat} (hp4 : rd w0 F3 cs2 r1) {r : (List (List Int))}
    (h : d_spec_GroupsOf fu r1 = some r) :
    Calls Tryz.prog 101 #[.agg cs2.toArray] w0 fun e w => ∃ (v0 : Value) (G0 : List Nat), e = .returned (v0) ∧ Ext [] w0 w ∧ ow w G0 [v0] r ∧ (∀ b ∈ G0, w0.heap.size ≤ b) := by
 refine enter (vs := [_]) func101 rfl ntmps101 rfl fun a k => ?_
 have m := St.start w0
 obtain ⟨v5, F6, v7, F8, v9, F10, rfl, rfl, hf11, hf12, hf13⟩ := hp4
 unfold d_spec_GroupsOf at h
 refine wr (s_box (cs := [.int .i64 r1.fWay, .int .i64 r1.fPallet.fW, .int .i64 r1.fPallet.fD, .int .i64 r1.fPallet.fH, .int .i64 r1.fPallet.fGram, .int .i64 r1.fClasses, v5, v7, .int .i64 r1.fMaster, v9]) m k rfl rfl rfl rfl rfl rfl fun b14 w16 a k m e hb15 => pN 1 k rfl fun a k => nn (wp_seq (d_go [] mixo m rfl fun w17 hMd => ?_)))
 have m := hMd
 have s := Ext.refl ([] : List Nat) w17
 refine dt k 0 rfl (by kernel_rfl) rfl s (fun _ _ _ => id) (fun w s => r_fa fa40_3 k rfl rfl) fun a k => dt k 1 rfl (by kernel_rfl) rfl s (fun _ _ _ => id) (fun w s => r_ld1 t136 (r := []) (hb15.at ((hMd.step s).a 0 rfl) 6 1 rfl rfl rfl) k rfl rfl) fun a k => dt k 2 rfl (by kernel_rfl) rfl s (fun _ _ _ => id) (fun w s => r_ldA ta40 (hb15.at ((hMd.step s).a 0 rfl) 0 10 rfl rfl rfl) rfl k rfl rfl) fun a k => d_one 3 (by kernel_rfl) rfl (oE h fun x18 hx19 h => ?_)
 refine s_call k call154 rfl rfl rfl rfl rfl (c_spec_Present fu _ (show rd _ _ [.int .i64 r1.fWay, .int .i64 r1.fPallet.fW, .int .i64 r1.fPallet.fD, .int .i64 r1.fPallet.fH, .int .i64 r1.fPallet.fGram, .int .i64 r1.fClasses, v5, v7, .int .i64 r1.fMaster, v9] (r1 : Request) from ⟨_, _, _, _, _, _, rfl, rfl, (Enc.rd_agr hf11 (m.a00 (Enc.rd_lt hf11))), (Enc.rd_agr hf12 (m.a00 (Enc.rd_lt hf12))), (Enc.rd_agr hf13 (m.a00 (Enc.rd_lt hf13)))⟩) hx19) fun e20 w21 hR => ?_
 obtain ⟨v26, F22, rfl, e, hf23, hfr24⟩ := hR
 refine ⟨_, rfl, fun a k => ?_⟩
 have m := m.new e F22 (fun b hb => ⟨hfr24 b hb, Enc.rd_lt (Enc.ow_rd hf23) b hb⟩) (Enc.ow_nd hf23)
 have hlo27 := fun (y : Nat) (hy : y ∈ F22) => Nat.le_trans s.size (hfr24 y hy)
 have s := s.trans e (by simp)
 refine wpList_nil ⟨s, ?_⟩
 refine d_one 4 (by kernel_rfl) rfl (oE h fun x28 hx29 h => s_call k call153 rfl rfl rfl rfl rfl (c_spec_Groups fu _ _ (Enc.rd_agr hf11 (m.a00 (Enc.rd_lt hf11))) (Enc.rd_agr (Enc.ow_rd hf23) (m.a 0 rfl)) hx29) fun e30 w31 hR => ?_)
 obtain ⟨v36, F32, rfl, e, hf33, hfr34⟩ := hR
 refine ⟨_, rfl, fun a k => ?_⟩
 have m := m.new e F32 (fun b hb => ⟨hfr34 b hb, Enc.rd_lt (Enc.ow_rd hf33) b hb⟩) (Enc.ow_nd hf33)
 have hlo37 := fun (y : Nat) (hy : y ∈ F32) => Nat.le_trans s.size (hfr34 y hy)
 have s := s.trans e (by simp)
 refine wpList_nil ⟨s, ?_⟩
 refine dp k 5 rfl (by kernel_rfl) rfl s (fun _ _ _ => id) rfl fun a k => d_done (by kernel_rfl) ((nm_then ?_))
 refine wp_ret ?_
 cases h
 exact finR1 k rfl (RV.tmp k rfl) ⟨_, F32, rfl, m.ext, (Enc.ow_agr hf33 (m.a 0 rfl)), (m.fresh 0 rfl)⟩
theorem c_spec_l6Item (fu : Nat) {w0 : World} (r1 : Request) (units5 : List Int) (u9 : Int) {cs2 : List Value} {F3 : List Nat} (hp4 : rd w0 F3 cs2 r1) {v6 : Value} {F7 : List Nat} (hp8 : rd w0 F7 [v6] units5) {r : Item × Bool}
    (h : d_spec_l6Item fu r1 units5 u9 = some r) :
    Calls Tryz.prog 102 #[.agg cs2.toArray, v6, .int .i64 u9] w0 fun e w => e = .returned (.tuple #[.agg (Flat.e r.1).toArray, .bool (r.2)]) ∧ Ext [] w0 w := by
 refine enter (vs := [_, _, _]) func102 rfl ntmps102 rfl fun a k => ?_
 have m := St.start w0
 obtain ⟨v10, F11, v12, F13, v14, F15, rfl, rfl, hf16, hf17, hf18⟩ := hp4
 unfold d_spec_l6Item at h
 refine wr (s_box (cs := [.int .i64 r1.fWay, .int .i64 r1.fPallet.fW, .int .i64 r1.fPallet.fD, .int .i64 r1.fPallet.fH, .int .i64 r1.fPallet.fGram, .int .i64 r1.fClasses, v10, v12, .int .i64 r1.fMaster, v14]) m k rfl rfl rfl rfl rfl rfl fun b19 w21 a k m e hb20 => s_alloc (cs := [.int .i64 0, .int .i64 0, .int .i64 0, .int .i64 0, .int .i64 0, .int .i64 0, .int .i64 0]) m k zeroValue120 rfl rfl rfl rfl rfl fun b22 w24 a k m e hb23 => pN 1 k rfl fun a k => nn (wp_seq (wr (pN 2 k rfl fun a k => sv k rfl (r_len (α := Int) hp8 k underlying29 rfl rfl) fun a k => pN 1 k rfl fun a k => oE h fun x25 hx26 h => cE k m call136 rfl rfl rfl (c_spec_l1In fu _ _ _  hx26) fun w28 e a k m => pN 1 k rfl fun a k => nn (cI h k rfl (fun hb29 h => ?_) fun hb29 h => ?_)))))
 · refine wr (sv k rfl (r_build bt120 k (ps := []) rfl rfl rfl) fun a k => s_stb (cs' := [.int .i64 0, .int .i64 0, .int .i64 0, .int .i64 0, .int .i64 0, .int .i64 0, .int .i64 0]) sizeOf120 m 0 hb23 0 k rfl rfl rfl rfl rfl rfl rfl rfl rfl rfl rfl fun w30 a k e m hb31 => pN 1 k rfl fun a k => nn (wp_ret (rt_then ?_)))
   cases h
   exact finR2 k rfl (RV.cA k rfl ta120 (hb31.at (m.a 0 rfl) 0 7 rfl rfl rfl) rfl) (RV.tmp k rfl) ⟨rfl, m.ext⟩
 refine wp_skip (nm_then ?_)
 refine wp_seq (d_go ([b22]) mixo m rfl fun w32 hMd => ?_)
 have m := hMd
 have s := Ext.refl (([b22]) : List Nat) w32
 refine dt k 0 rfl (by kernel_rfl) rfl s (fun _ _ _ => id) (fun w s => r_fa fa40_6 k rfl rfl) fun a k => dt k 1 rfl (by kernel_rfl) rfl s (fun _ _ _ => id) (fun w s => r_ld1 t138 (r := []) (hb20.at (hMd.az 1 0 rfl rfl rfl s) 9 1 rfl rfl rfl) k rfl rfl) fun a k => dp k 2 rfl (by kernel_rfl) rfl s (fun _ _ _ => id) rfl fun a k => dp k 3 rfl (by kernel_rfl) rfl s (fun _ _ _ => id) rfl fun a k => oE h fun x33 hx34 h => dt k 4 rfl (by kernel_rfl) rfl s (fun _ _ _ => id) (fun w s => r_ixa hp8 hx34 k ts29 rfl rfl rfl) fun a k => dt k 5 rfl (by kernel_rfl) rfl s (fun _ _ _ => id) (fun w s => r_lde1 hp8 (hMd.az0 0 rfl rfl (Enc.rd_lt hp8) s) hx34 0 t13 k rfl rfl rfl rfl) fun a k => oE h fun x35 hx36 h => dt k 6 rfl (by kernel_rfl) rfl s (fun _ _ _ => id) (fun w s => r_ixa hf18 hx36 k ts38 rfl rfl rfl) fun a k => ?_
 refine dt k 7 rfl (by kernel_rfl) rfl s (fun _ _ _ => id) (fun w s => r_lde hf18 (hMd.az0 0 rfl rfl (Enc.rd_lt hf18) s) hx36 ta120 k rfl rfl) fun a k => d_one 8 (by kernel_rfl) rfl (s_stb (cs' := [.int .i64 x35.fId, .int .i64 x35.fW, .int .i64 x35.fH, .int .i64 x35.fD, .int .i64 x35.fGram, .int .i64 x35.fClass, .int .i64 x35.fCount]) sizeOf120 m 0 hb23 0 k rfl rfl rfl rfl rfl rfl rfl rfl rfl rfl rfl fun w37 a k e m hb38 => ?_)
 have s := s.trans e (fun y hy => Or.inl hy)
 refine wpList_nil ⟨s, ?_⟩
 refine dp k 9 rfl (by kernel_rfl) rfl s (fun _ _ _ => id) rfl fun a k => d_done (by kernel_rfl) ((nm_then ?_))
 refine wp_ret ?_
 cases h
 exact finR2 k rfl (RV.cA k rfl ta120 (hb38.at (m.a 0 rfl) 0 7 rfl rfl rfl) rfl) (RV.tmp k rfl) ⟨rfl, m.ext⟩
theorem c_spec_GroupOf (fu : Nat) {w0 : World} (groups1 : List (List Int)) (class5 : Int) {v2 : Value} {F3 : List Nat} (hp4 : rd w0 F3 [v2] groups1) {r : Int}
    (h : d_spec_GroupOf fu groups1 class5 = some r) :
    Calls Tryz.prog 103 #[v2, .int .i64 class5] w0 fun e w => e = .returned (.int .i64 r) ∧ Ext [] w0 w := by
 refine enter (vs := [_, _]) func103 rfl ntmps103 rfl fun a k => ?_
 have m := St.start w0
 unfold d_spec_GroupOf at h
 refine wr (pN 1 k rfl fun a k => nn (wp_seq (wr (pN 1 k rfl fun a k => nn (wp_block (c_loop (fun n a w => ∃ (i40 : Int), K 19 [(0, v2), (1, .int .i64 class5), (5, .int .i64 i40)] a ∧ St [] w0 w [] ∧ d_spec_GroupOf_L1 fu groups1 class5 n i40 = some r) ?_ ?_ fu _ _ ?_))))))
 · rintro a w ⟨_, _, _, h⟩
   exact nS h
 · rintro m41 a w39 ⟨i40, k, m, h⟩
   rw [d_spec_GroupOf_L1_s] at h
   unfold d_spec_GroupOf_L1_B at h
   refine wp_seq (wr (pN 2 k rfl fun a k => sv k rfl (r_len (α := List Int) hp4 k underlying47 rfl rfl) fun a k => pN 1 k rfl fun a k => nn (cI h k rfl (fun hb42 h => ?_) fun hb42 h => ?_)))
   · refine wp_skip (nm_then ?_)
     refine wp_seq (wp_block (wr (pN 2 k rfl fun a k => oE h fun x43 hx44 h => sv k rfl (r_ixa hp4 hx44 k ts47 rfl rfl rfl) fun a k => ?_)))
     obtain ⟨G45, cs46, hG47, hr48, hp49, hb50⟩ := rd_get hp4 (ix_some hx44).2.2
     obtain ⟨v51, rfl⟩ : ∃ v, cs46 = [v] := by obtain ⟨_, _, hq, _⟩ := hr48; exact ⟨_, hq⟩
     refine sv k rfl (r_ld1 t129 (hp49.agr (m.a00 (Enc.rd_lt hp4)) hb50) k rfl rfl) fun a k => pN 1 k rfl fun a k => oE h fun x52 hx53 h => cE k m call96 rfl rfl rfl (c_spec_l1Has fu _ _ (Enc.rd_agr hr48 (m.a00 (Enc.rd_lt hr48))) hx53) fun w55 e a k m => nn (cI h k rfl (fun hb56 h => ?_) fun hb56 h => ?_)
     · refine wr (pN 2 k rfl fun a k => nn (wp_ret (rt_block (rt_then (rt_then (rt_block (rt_then ?_)))))))
       refine fS h k m rfl rfl
     refine wp_skip (nm_block (nm_then ?_))
     refine wp_region_lit (pN 3 k rfl fun a k => nn ?_)
     exact ⟨w64 (i40 + 1), k.keep [0, 1, 5] rfl, m.sel [] rfl (by decide), h⟩
   refine wp_exit (ex_then (ex_then (ex_same (nm_then ?_))))
   refine wr (pN 1 k rfl fun a k => nn (wp_ret (fS h k m rfl rfl)))
 exact ⟨0, k.keep [0, 1, 5] rfl, m.sel [] rfl (by decide), h⟩
theorem c_spec_Mixes (fu : Nat) {w0 : World} (r1 : Request) (cartons5 : List (List Int)) {cs2 : List Value} {F3 : List Nat} (hp4 : rd w0 F3 cs2 r1) {v6 : Value} {F7 : List Nat} (hp8 : rd w0 F7 [v6] cartons5) {r : Bool}
    (h : d_spec_Mixes fu r1 cartons5 = some r) :
    Calls Tryz.prog 37 #[.agg cs2.toArray, v6] w0 fun e w => e = .returned (.bool (r)) ∧ Ext [] w0 w := by
 refine enter (vs := [_, _]) func37 rfl ntmps37 rfl fun a k => ?_
 have m := St.start w0
 obtain ⟨v9, F10, v11, F12, v13, F14, rfl, rfl, hf15, hf16, hf17⟩ := hp4
 unfold d_spec_Mixes at h
 refine wr (s_box (cs := [.int .i64 r1.fWay, .int .i64 r1.fPallet.fW, .int .i64 r1.fPallet.fD, .int .i64 r1.fPallet.fH, .int .i64 r1.fPallet.fGram, .int .i64 r1.fClasses, v9, v11, .int .i64 r1.fMaster, v13]) m k rfl rfl rfl rfl rfl rfl fun b18 w20 a k m e hb19 => pN 1 k rfl fun a k => nn (wr (sv k rfl (r_ldB ta40 m 0 hb19 0 k rfl rfl rfl rfl rfl rfl) fun a k => oE h fun x21 hx22 h => ?_)))
 refine s_call k call83 rfl rfl rfl rfl rfl (c_spec_Units fu _ (show rd _ _ [.int .i64 r1.fWay, .int .i64 r1.fPallet.fW, .int .i64 r1.fPallet.fD, .int .i64 r1.fPallet.fH, .int .i64 r1.fPallet.fGram, .int .i64 r1.fClasses, v9, v11, .int .i64 r1.fMaster, v13] (r1 : Request) from ⟨_, _, _, _, _, _, rfl, rfl, (Enc.rd_agr hf15 (m.a00 (Enc.rd_lt hf15))), (Enc.rd_agr hf16 (m.a00 (Enc.rd_lt hf16))), (Enc.rd_agr hf17 (m.a00 (Enc.rd_lt hf17)))⟩) hx22) fun e23 w24 hR => ?_
 obtain ⟨v29, F25, rfl, e, hf26, hfr27⟩ := hR
 refine ⟨_, rfl, fun a k => ?_⟩
 have m := m.new e F25 (fun b hb => ⟨hfr27 b hb, Enc.rd_lt (Enc.ow_rd hf26) b hb⟩) (Enc.ow_nd hf26)
 refine pN 1 k rfl fun a k => nn (wr (sv k rfl (r_ldB ta40 m 1 hb19 0 k rfl rfl rfl rfl rfl rfl) fun a k => oE h fun x30 hx31 h => s_call k call101 rfl rfl rfl rfl rfl (c_spec_GroupsOf fu _ (show rd _ _ [.int .i64 r1.fWay, .int .i64 r1.fPallet.fW, .int .i64 r1.fPallet.fD, .int .i64 r1.fPallet.fH, .int .i64 r1.fPallet.fGram, .int .i64 r1.fClasses, v9, v11, .int .i64 r1.fMaster, v13] (r1 : Request) from ⟨_, _, _, _, _, _, rfl, rfl, (Enc.rd_agr hf15 (m.a00 (Enc.rd_lt hf15))), (Enc.rd_agr hf16 (m.a00 (Enc.rd_lt hf16))), (Enc.rd_agr hf17 (m.a00 (Enc.rd_lt hf17)))⟩) hx31) fun e32 w33 hR => ?_))
 obtain ⟨v38, F34, rfl, e, hf35, hfr36⟩ := hR
 refine ⟨_, rfl, fun a k => ?_⟩
 have m := m.new e F34 (fun b hb => ⟨hfr36 b hb, Enc.rd_lt (Enc.ow_rd hf35) b hb⟩) (Enc.ow_nd hf35)
 refine pN 1 k rfl fun a k => nn (wp_seq (wr (pN 1 k rfl fun a k => nn (wp_block (c_loop (fun n a w => ∃ (i23531 : Int), K 79 [(1, v6), (2, .pointer (some (⟨b18, 0, none⟩ : Addr))), (5, v29), (6, v38), (7, .int .i64 i23531)] a ∧ St [] w0 w [([b18], w20), (F25, w24), (F34, w33)] ∧ d_spec_Mixes_L3 fu r1 cartons5 x21 x30 n i23531 = some r) ?_ ?_ fu _ _ ?_)))))
 · rintro a w ⟨_, _, _, h⟩
   exact nS h
 · rintro m23532 a w23530 ⟨i23531, k, m, h⟩
   rw [d_spec_Mixes_L3_s] at h
   unfold d_spec_Mixes_L3_B at h
   refine wp_seq (wr (pN 2 k rfl fun a k => sv k rfl (r_len (α := List Int) hp8 k underlying47 rfl rfl) fun a k => pN 1 k rfl fun a k => nn (cI h k rfl (fun hb23533 h => ?_) fun hb23533 h => ?_)))
   · refine wp_skip (nm_then ?_)
     refine c_cut (fun a w => K 79 [(1, v6), (2, .pointer (some (⟨b18, 0, none⟩ : Addr))), (5, v29), (6, v38), (7, .int .i64 i23531)] a ∧ St [] w0 w [([b18], w20), (F25, w24), (F34, w33)] ∧ d_spec_Mixes_J1 fu (d_spec_Mixes_L3 fu r1 cartons5 x21 x30 m23532) i23531 = some r) ?_ ?_
     · rintro a w29405 ⟨k, m, h⟩
       unfold d_spec_Mixes_J1 at h
       refine wp_region_lit (pN 3 k rfl fun a k => nn ?_)
       exact ⟨w64 (i23531 + 1), k.keep [1, 2, 5, 6, 7] rfl, m.sel [0, 1, 2] rfl (by decide), h⟩
     refine wp_block (wr (pN 1 k rfl fun a k => nn (wp_block (c_loop (fun n a w => ∃ (a33320 : Int), K 79 [(1, v6), (2, .pointer (some (⟨b18, 0, none⟩ : Addr))), (5, v29), (6, v38), (7, .int .i64 i23531), (8, .int .i64 a33320)] a ∧ St [] w0 w [([b18], w20), (F25, w24), (F34, w33)] ∧ d_spec_Mixes_L2 fu (d_spec_Mixes_L3 fu r1 cartons5 x21 x30 m23532) r1 cartons5 x21 x30 i23531 n a33320 = some r) ?_ ?_ fu _ _ ?_))))
     · rintro a w ⟨_, _, _, h⟩
       exact nS h
     · rintro m33321 a w33319 ⟨a33320, k, m, h⟩
       rw [d_spec_Mixes_L2_s] at h
       unfold d_spec_Mixes_L2_B at h
       refine wp_seq (wr (pN 3 k rfl fun a k => oE h fun x33322 hx33323 h => sv k rfl (r_ixa hp8 hx33323 k ts47 rfl rfl rfl) fun a k => ?_))
       obtain ⟨G33324, cs33325, hG33326, hr33327, hp33328, hb33329⟩ := rd_get hp8 (ix_some hx33323).2.2
       obtain ⟨v33330, rfl⟩ : ∃ v, cs33325 = [v] := by obtain ⟨_, _, hq, _⟩ := hr33327; exact ⟨_, hq⟩
       refine sv k rfl (r_ld1 t129 (hp33328.agr (m.a00 (Enc.rd_lt hp8)) hb33329) k rfl rfl) fun a k => sv k rfl (r_len (α := Int) hr33327 k underlying29 rfl rfl) fun a k => pN 1 k rfl fun a k => nn (cI h k rfl (fun hb33331 h => ?_) fun hb33331 h => ?_)
       · refine wp_skip (nm_then ?_)
         refine c_cut (fun a w => K 79 [(1, v6), (2, .pointer (some (⟨b18, 0, none⟩ : Addr))), (5, v29), (6, v38), (7, .int .i64 i23531), (8, .int .i64 a33320)] a ∧ St [] w0 w [([b18], w20), (F25, w24), (F34, w33)] ∧ d_spec_Mixes_J2 fu (d_spec_Mixes_L2 fu (d_spec_Mixes_L3 fu r1 cartons5 x21 x30 m23532) r1 cartons5 x21 x30 i23531 m33321) a33320 = some r) ?_ ?_
         · rintro a w34304 ⟨k, m, h⟩
           unfold d_spec_Mixes_J2 at h
           refine wp_region_lit (pN 3 k rfl fun a k => nn ?_)
           exact ⟨w64 (a33320 + 1), k.keep [1, 2, 5, 6, 7, 8] rfl, m.sel [0, 1, 2] rfl (by decide), h⟩
         refine wp_block (wr (pN 1 k rfl fun a k => nn (wp_block (c_loop (fun n a w => ∃ (b34953 : Int), K 79 [(1, v6), (2, .pointer (some (⟨b18, 0, none⟩ : Addr))), (5, v29), (6, v38), (7, .int .i64 i23531), (8, .int .i64 a33320), (9, .int .i64 b34953)] a ∧ St [] w0 w [([b18], w20), (F25, w24), (F34, w33)] ∧ d_spec_Mixes_L1 fu (d_spec_Mixes_L2 fu (d_spec_Mixes_L3 fu r1 cartons5 x21 x30 m23532) r1 cartons5 x21 x30 i23531 m33321) r1 cartons5 x21 x30 i23531 a33320 n b34953 = some r) ?_ ?_ fu _ _ ?_))))
         · rintro a w ⟨_, _, _, h⟩
           exact nS h
         · rintro m34954 a w34952 ⟨b34953, k, m, h⟩
           rw [d_spec_Mixes_L1_s] at h
           unfold d_spec_Mixes_L1_B at h
           refine wp_seq (wr (pN 3 k rfl fun a k => nn (cI h k rfl (fun hb34955 h => ?_) fun hb34955 h => ?_)))
           · refine wp_skip (nm_then ?_)
             refine c_cut (fun a w => K 79 [(1, v6), (2, .pointer (some (⟨b18, 0, none⟩ : Addr))), (5, v29), (6, v38), (7, .int .i64 i23531), (8, .int .i64 a33320), (9, .int .i64 b34953)] a ∧ St [] w0 w [([b18], w20), (F25, w24), (F34, w33)] ∧ d_spec_Mixes_J3 fu (d_spec_Mixes_L1 fu (d_spec_Mixes_L2 fu (d_spec_Mixes_L3 fu r1 cartons5 x21 x30 m23532) r1 cartons5 x21 x30 i23531 m33321) r1 cartons5 x21 x30 i23531 a33320 m34954) b34953 = some r) ?_ ?_
             · rintro a w35116 ⟨k, m, h⟩
               unfold d_spec_Mixes_J3 at h
               refine wp_region_lit (pN 3 k rfl fun a k => nn ?_)
               exact ⟨w64 (b34953 + 1), k.keep [1, 2, 5, 6, 7, 8, 9] rfl, m.sel [0, 1, 2] rfl (by decide), h⟩
             refine wp_block (c_cut (fun a w => ∃ (i35155 : Item) (b35152 : Nat) (u35153 : World) (okX35156 : Bool), K 79 [(1, v6), (2, .pointer (some (⟨b18, 0, none⟩ : Addr))), (5, v29), (6, v38), (7, .int .i64 i23531), (8, .int .i64 a33320), (9, .int .i64 b34953), (10, .pointer (some (⟨b35152, 0, none⟩ : Addr))), (11, .bool (okX35156))] a ∧ St [] w0 w [([b18], w20), (F25, w24), (F34, w33), ([b35152], u35153)] ∧ bx u35153 b35152 [.int .i64 i35155.fId, .int .i64 i35155.fW, .int .i64 i35155.fH, .int .i64 i35155.fD, .int .i64 i35155.fGram, .int .i64 i35155.fClass, .int .i64 i35155.fCount] 120 ∧ d_spec_Mixes_J5 fu (d_spec_Mixes_L1 fu (d_spec_Mixes_L2 fu (d_spec_Mixes_L3 fu r1 cartons5 x21 x30 m23532) r1 cartons5 x21 x30 i23531 m33321) r1 cartons5 x21 x30 i23531 a33320 m34954) r1 cartons5 x21 x30 i23531 b34953 i35155 okX35156 = some r) ?_ ?_)
             · rintro a w35151 ⟨i35155, b35152, u35153, okX35156, k, m, hb35154, h⟩
               unfold d_spec_Mixes_J5 at h
               refine c_cut (fun a w => ∃ (i35195 : Item) (b35192 : Nat) (u35193 : World) (okY35196 : Bool), K 79 [(1, v6), (2, .pointer (some (⟨b18, 0, none⟩ : Addr))), (5, v29), (6, v38), (7, .int .i64 i23531), (8, .int .i64 a33320), (9, .int .i64 b34953), (10, .pointer (some (⟨b35152, 0, none⟩ : Addr))), (11, .bool (okX35156)), (12, .pointer (some (⟨b35192, 0, none⟩ : Addr))), (13, .bool (okY35196))] a ∧ St [] w0 w [([b18], w20), ([b35152], u35153), (F25, w24), (F34, w33), ([b35192], u35193)] ∧ bx u35193 b35192 [.int .i64 i35195.fId, .int .i64 i35195.fW, .int .i64 i35195.fH, .int .i64 i35195.fD, .int .i64 i35195.fGram, .int .i64 i35195.fClass, .int .i64 i35195.fCount] 120 ∧ d_spec_Mixes_J4 fu (d_spec_Mixes_L1 fu (d_spec_Mixes_L2 fu (d_spec_Mixes_L3 fu r1 cartons5 x21 x30 m23532) r1 cartons5 x21 x30 i23531 m33321) r1 cartons5 x21 x30 i23531 a33320 m34954) x30 b34953 i35155 okX35156 i35195 okY35196 = some r) ?_ ?_
               · rintro a w35191 ⟨i35195, b35192, u35193, okY35196, k, m, hb35194, h⟩
                 unfold d_spec_Mixes_J4 at h
                 refine wp_seq (d_go [] mixo m rfl fun w35197 hMd => ?_)
                 have m := hMd
                 have s := Ext.refl ([] : List Nat) w35197
                 refine dp k 0 rfl (by kernel_rfl) rfl s (fun _ _ _ => id) rfl fun a k => dp k 1 rfl (by kernel_rfl) rfl s (fun _ _ _ => id) rfl fun a k => bsplit (okX35156) (fun hb35198 => ?_) (fun hb35198 => ?_)
                 · have h := bif_t hb35198 h
                   refine rB k 65 rfl hb35198 fun k => dp k 2 rfl (by kernel_rfl) rfl s (fun _ _ _ => id) rfl fun a k => dp k 3 rfl (by kernel_rfl) rfl s (fun _ _ _ => id) rfl fun a k => dp k 4 rfl (by kernel_rfl) rfl s (fun _ _ _ => id) rfl fun a k => bsplit (okY35196) (fun hb35199 => ?_) (fun hb35199 => ?_)
                   · have h := bif_t hb35199 h
                     refine rB k 68 rfl hb35199 fun k => dp k 5 rfl (by kernel_rfl) rfl s (fun _ _ _ => id) rfl fun a k => dt k 6 rfl (by kernel_rfl) rfl s (fun _ _ _ => id) (fun w s => r_fa fa120_5 k rfl rfl) fun a k => dt k 7 rfl (by kernel_rfl) rfl s (fun _ _ _ => id) (fun w s => r_ld1 t13 (r := []) (hb35154.at ((hMd.step s).a 1 rfl) 5 1 rfl rfl rfl) k rfl rfl) fun a k => dp k 9 rfl (by kernel_rfl) rfl s (fun _ _ _ => id) rfl fun a k => dt k 10 rfl (by kernel_rfl) rfl s (fun _ _ _ => id) (fun w s => r_fa fa120_5 k rfl rfl) fun a k => dt k 11 rfl (by kernel_rfl) rfl s (fun _ _ _ => id) (fun w s => r_ld1 t13 (r := []) (hb35194.at ((hMd.step s).a 4 rfl) 5 1 rfl rfl rfl) k rfl rfl) fun a k => d_one 8 (by kernel_rfl) rfl (oE h fun x35200 hx35201 h => ?_)
                     refine cE k m call103 rfl rfl rfl (c_spec_GroupOf fu _ _ (Enc.rd_agr (Enc.ow_rd hf35) (m.a 3 rfl)) hx35201) fun w35203 e a k m => ?_
                     have s := s.trans e (by simp)
                     refine wpList_nil ⟨s, ?_⟩
                     refine d_one 12 (by kernel_rfl) rfl (oE h fun x35204 hx35205 h => cE k m call103 rfl rfl rfl (c_spec_GroupOf fu _ _ (Enc.rd_agr (Enc.ow_rd hf35) (m.a 3 rfl)) hx35205) fun w35207 e a k m => ?_)
                     have s := s.trans e (by simp)
                     refine wpList_nil ⟨s, ?_⟩
                     refine dp k 13 rfl (by kernel_rfl) rfl s (fun _ _ _ => id) rfl fun a k => dp k 14 rfl (by kernel_rfl) rfl s (fun _ _ _ => id) rfl fun a k => d_done (by kernel_rfl) ((nm_then ?_))
                     refine cI h k rfl (fun hb35208 h => ?_) fun hb35208 h => ?_
                     · refine wr (pN 1 k rfl fun a k => nn (wp_ret (rt_block (rt_then (rt_then (rt_block (rt_block (rt_then (rt_then (rt_block (rt_block (rt_then (rt_then (rt_block (rt_then ?_)))))))))))))))
                       refine fS h k m rfl rfl
                     refine wp_skip (nm_block (nm_then ?_))
                     exact ⟨k.keep [1, 2, 5, 6, 7, 8, 9] rfl, m.sel [0, 2, 3] rfl (by decide), h⟩
                   have h := bif_f hb35199 h
                   refine rB k 68 rfl hb35199 fun k => ds k 5 rfl (by kernel_rfl) rfl s (fun _ _ _ => id) fun a k => ds k 6 rfl (by kernel_rfl) rfl s (fun _ _ _ => id) fun a k => ds k 7 rfl (by kernel_rfl) rfl s (fun _ _ _ => id) fun a k => ds k 8 rfl (by kernel_rfl) rfl s (fun _ _ _ => id) fun a k => ds k 9 rfl (by kernel_rfl) rfl s (fun _ _ _ => id) fun a k => ds k 10 rfl (by kernel_rfl) rfl s (fun _ _ _ => id) fun a k => ds k 11 rfl (by kernel_rfl) rfl s (fun _ _ _ => id) fun a k => ds k 12 rfl (by kernel_rfl) rfl s (fun _ _ _ => id) fun a k => ds k 13 rfl (by kernel_rfl) rfl s (fun _ _ _ => id) fun a k => dp k 14 rfl (by kernel_rfl) rfl s (fun _ _ _ => id) rfl fun a k => d_done (by kernel_rfl) ((nm_then ?_))
                   refine wp_cond_false (k.ev rfl) (wp_skip (nm_block (nm_then ?_)))
                   exact ⟨k.keep [1, 2, 5, 6, 7, 8, 9] rfl, m.sel [0, 2, 3] rfl (by decide), h⟩
                 have h := bif_f hb35198 h
                 refine rB k 65 rfl hb35198 fun k => ds k 2 rfl (by kernel_rfl) rfl s (fun _ _ _ => id) fun a k => dp k 3 rfl (by kernel_rfl) rfl s (fun _ _ _ => id) rfl fun a k => dp k 4 rfl (by kernel_rfl) rfl s (fun _ _ _ => id) rfl fun a k => ds k 5 rfl (by kernel_rfl) rfl s (fun _ _ _ => id) fun a k => ds k 6 rfl (by kernel_rfl) rfl s (fun _ _ _ => id) fun a k => ds k 7 rfl (by kernel_rfl) rfl s (fun _ _ _ => id) fun a k => ds k 8 rfl (by kernel_rfl) rfl s (fun _ _ _ => id) fun a k => ds k 9 rfl (by kernel_rfl) rfl s (fun _ _ _ => id) fun a k => ds k 10 rfl (by kernel_rfl) rfl s (fun _ _ _ => id) fun a k => ds k 11 rfl (by kernel_rfl) rfl s (fun _ _ _ => id) fun a k => ds k 12 rfl (by kernel_rfl) rfl s (fun _ _ _ => id) fun a k => ds k 13 rfl (by kernel_rfl) rfl s (fun _ _ _ => id) fun a k => ?_
                 refine dp k 14 rfl (by kernel_rfl) rfl s (fun _ _ _ => id) rfl fun a k => d_done (by kernel_rfl) ((nm_then ?_))
                 refine wp_cond_false (k.ev rfl) (wp_skip (nm_block (nm_then ?_)))
                 exact ⟨k.keep [1, 2, 5, 6, 7, 8, 9] rfl, m.sel [0, 2, 3] rfl (by decide), h⟩
               refine d_go [] mixo m rfl fun w35209 hMd => ?_
               have m := hMd
               have s := Ext.refl ([] : List Nat) w35209
               refine dt k 0 rfl (by kernel_rfl) rfl s (fun _ _ _ => id) (fun w s => r_ldA ta40 (hb19.at ((hMd.step s).a 0 rfl) 0 10 rfl rfl rfl) rfl k rfl rfl) fun a k => dp k 1 rfl (by kernel_rfl) rfl s (fun _ _ _ => id) rfl fun a k => dp k 2 rfl (by kernel_rfl) rfl s (fun _ _ _ => id) rfl fun a k => dp k 3 rfl (by kernel_rfl) rfl s (fun _ _ _ => id) rfl fun a k => oE h fun x35210 hx35211 h => dt k 4 rfl (by kernel_rfl) rfl s (fun _ _ _ => id) (fun w s => r_ixa hp8 hx35211 k ts47 rfl rfl rfl) fun a k => ?_
               obtain ⟨G35212, cs35213, hG35214, hr35215, hp35216, hb35217⟩ := rd_get hp8 (ix_some hx35211).2.2
               obtain ⟨v35218, rfl⟩ : ∃ v, cs35213 = [v] := by obtain ⟨_, _, hq, _⟩ := hr35215; exact ⟨_, hq⟩
               refine dt k 5 rfl (by kernel_rfl) rfl s (fun _ _ _ => id) (fun w s => r_ld1 t129 (hp35216.agr ((hMd.step s).a00 (Enc.rd_lt hp8)) hb35217) k rfl rfl) fun a k => dp k 6 rfl (by kernel_rfl) rfl s (fun _ _ _ => id) rfl fun a k => oE h fun x35219 hx35220 h => dt k 7 rfl (by kernel_rfl) rfl s (fun _ _ _ => id) (fun w s => r_ixa hr35215 hx35220 k ts29 rfl rfl rfl) fun a k => dt k 8 rfl (by kernel_rfl) rfl s (fun _ _ _ => id) (fun w s => r_lde1 hr35215 ((hMd.step s).a00 (Enc.rd_lt hr35215)) hx35220 0 t13 k rfl rfl rfl rfl) fun a k => d_two 9 13 (by kernel_rfl) rfl rfl ?_ ?_ 
               · refine oE h fun x35221 hx35222 h => cE k m call102 rfl rfl rfl (c_spec_l6Item fu _ _ _ (show rd _ _ [.int .i64 r1.fWay, .int .i64 r1.fPallet.fW, .int .i64 r1.fPallet.fD, .int .i64 r1.fPallet.fH, .int .i64 r1.fPallet.fGram, .int .i64 r1.fClasses, v9, v11, .int .i64 r1.fMaster, v13] (r1 : Request) from ⟨_, _, _, _, _, _, rfl, rfl, (Enc.rd_agr hf15 (m.a00 (Enc.rd_lt hf15))), (Enc.rd_agr hf16 (m.a00 (Enc.rd_lt hf16))), (Enc.rd_agr hf17 (m.a00 (Enc.rd_lt hf17)))⟩) (Enc.rd_agr (Enc.ow_rd hf26) (m.a 1 rfl)) hx35222) fun w35224 e a k m => ?_
                 have s := s.trans e (by simp)
                 refine wpList_nil ⟨s, ?_⟩
                 refine dp k 10 rfl (by kernel_rfl) rfl s (fun _ _ _ => id) rfl fun a k => dp k 11 rfl (by kernel_rfl) rfl s (fun _ _ _ => id) rfl fun a k => dp k 12 rfl (by kernel_rfl) rfl s (fun _ _ _ => id) rfl fun a k => d_one 13 (by kernel_rfl) rfl (s_allocN (cs := [.int .i64 0, .int .i64 0, .int .i64 0, .int .i64 0, .int .i64 0, .int .i64 0, .int .i64 0]) m k zeroValue120 rfl rfl rfl rfl rfl fun b35225 w35227 a k m e hb35226 hbn35228 => ?_)
                 have hlo35229 := lo1 (Nat.le_trans s.size hbn35228)
                 have s := s.trans e (by simp)
                 refine wpList_nil ⟨s, ?_⟩
                 refine d_one 14 (by kernel_rfl) rfl (s_stb (cs' := [.int .i64 x35221.1.fId, .int .i64 x35221.1.fW, .int .i64 x35221.1.fH, .int .i64 x35221.1.fD, .int .i64 x35221.1.fGram, .int .i64 x35221.1.fClass, .int .i64 x35221.1.fCount]) sizeOf120 m 0 hb35226 0 k rfl rfl rfl rfl rfl rfl rfl rfl rfl rfl rfl fun w35230 a k e m hb35231 => ?_)
                 have s := s.trans e (fun y hy => Or.inr (hlo35229 y hy))
                 refine wpList_nil ⟨s, ?_⟩
                 refine dp k 15 rfl (by kernel_rfl) rfl s (fun _ _ _ => id) rfl fun a k => d_done (by kernel_rfl) ((nm_then ?_))
                 exact ⟨x35221.1, b35225, w35230, x35221.2, k.keep [1, 2, 5, 6, 7, 8, 9, 10, 11, 12, 13] rfl, m.sel [1, 4, 2, 3, 0] rfl (by decide), hb35231, h⟩
               refine s_allocN (cs := [.int .i64 0, .int .i64 0, .int .i64 0, .int .i64 0, .int .i64 0, .int .i64 0, .int .i64 0]) m k zeroValue120 rfl rfl rfl rfl rfl fun b35232 w35234 a k m e hb35233 hbn35235 => ?_
               have hlo35236 := lo1 (Nat.le_trans s.size hbn35235)
               have s := s.trans e (by simp)
               refine wpList_nil ⟨s, ?_⟩
               refine d_one 9 (by kernel_rfl) rfl (oE h fun x35237 hx35238 h => cE k m call102 rfl rfl rfl (c_spec_l6Item fu _ _ _ (show rd _ _ [.int .i64 r1.fWay, .int .i64 r1.fPallet.fW, .int .i64 r1.fPallet.fD, .int .i64 r1.fPallet.fH, .int .i64 r1.fPallet.fGram, .int .i64 r1.fClasses, v9, v11, .int .i64 r1.fMaster, v13] (r1 : Request) from ⟨_, _, _, _, _, _, rfl, rfl, (Enc.rd_agr hf15 (m.a00 (Enc.rd_lt hf15))), (Enc.rd_agr hf16 (m.a00 (Enc.rd_lt hf16))), (Enc.rd_agr hf17 (m.a00 (Enc.rd_lt hf17)))⟩) (Enc.rd_agr (Enc.ow_rd hf26) (m.a 2 rfl)) hx35238) fun w35240 e a k m => ?_)
               have s := s.trans e (by simp)
               refine wpList_nil ⟨s, ?_⟩
               refine dp k 10 rfl (by kernel_rfl) rfl s (fun _ _ _ => id) rfl fun a k => dp k 11 rfl (by kernel_rfl) rfl s (fun _ _ _ => id) rfl fun a k => dp k 12 rfl (by kernel_rfl) rfl s (fun _ _ _ => id) rfl fun a k => d_one 14 (by kernel_rfl) rfl (s_stb (cs' := [.int .i64 x35237.1.fId, .int .i64 x35237.1.fW, .int .i64 x35237.1.fH, .int .i64 x35237.1.fD, .int .i64 x35237.1.fGram, .int .i64 x35237.1.fClass, .int .i64 x35237.1.fCount]) sizeOf120 m 0 hb35233 0 k rfl rfl rfl rfl rfl rfl rfl rfl rfl rfl rfl fun w35241 a k e m hb35242 => ?_)
               have s := s.trans e (fun y hy => Or.inr (hlo35236 y hy))
               refine wpList_nil ⟨s, ?_⟩
               refine dp k 15 rfl (by kernel_rfl) rfl s (fun _ _ _ => id) rfl fun a k => d_done (by kernel_rfl) ((nm_then ?_))
               exact ⟨x35237.1, b35232, w35241, x35237.2, k.keep [1, 2, 5, 6, 7, 8, 9, 10, 11, 12, 13] rfl, m.sel [1, 4, 2, 3, 0] rfl (by decide), hb35242, h⟩
             refine d_go [] mixo m rfl fun w35243 hMd => ?_
             have m := hMd
             have s := Ext.refl ([] : List Nat) w35243
             refine dt k 0 rfl (by kernel_rfl) rfl s (fun _ _ _ => id) (fun w s => r_ldA ta40 (hb19.at ((hMd.step s).a 0 rfl) 0 10 rfl rfl rfl) rfl k rfl rfl) fun a k => dp k 1 rfl (by kernel_rfl) rfl s (fun _ _ _ => id) rfl fun a k => dp k 2 rfl (by kernel_rfl) rfl s (fun _ _ _ => id) rfl fun a k => dp k 3 rfl (by kernel_rfl) rfl s (fun _ _ _ => id) rfl fun a k => oE h fun x35244 hx35245 h => dt k 4 rfl (by kernel_rfl) rfl s (fun _ _ _ => id) (fun w s => r_ixa hp8 hx35245 k ts47 rfl rfl rfl) fun a k => ?_
             obtain ⟨G35246, cs35247, hG35248, hr35249, hp35250, hb35251⟩ := rd_get hp8 (ix_some hx35245).2.2
             obtain ⟨v35252, rfl⟩ : ∃ v, cs35247 = [v] := by obtain ⟨_, _, hq, _⟩ := hr35249; exact ⟨_, hq⟩
             refine dt k 5 rfl (by kernel_rfl) rfl s (fun _ _ _ => id) (fun w s => r_ld1 t129 (hp35250.agr ((hMd.step s).a00 (Enc.rd_lt hp8)) hb35251) k rfl rfl) fun a k => dp k 6 rfl (by kernel_rfl) rfl s (fun _ _ _ => id) rfl fun a k => oE h fun x35253 hx35254 h => dt k 7 rfl (by kernel_rfl) rfl s (fun _ _ _ => id) (fun w s => r_ixa hr35249 hx35254 k ts29 rfl rfl rfl) fun a k => dt k 8 rfl (by kernel_rfl) rfl s (fun _ _ _ => id) (fun w s => r_lde1 hr35249 ((hMd.step s).a00 (Enc.rd_lt hr35249)) hx35254 0 t13 k rfl rfl rfl rfl) fun a k => d_two 9 13 (by kernel_rfl) rfl rfl ?_ ?_ 
             · refine oE h fun x35255 hx35256 h => cE k m call102 rfl rfl rfl (c_spec_l6Item fu _ _ _ (show rd _ _ [.int .i64 r1.fWay, .int .i64 r1.fPallet.fW, .int .i64 r1.fPallet.fD, .int .i64 r1.fPallet.fH, .int .i64 r1.fPallet.fGram, .int .i64 r1.fClasses, v9, v11, .int .i64 r1.fMaster, v13] (r1 : Request) from ⟨_, _, _, _, _, _, rfl, rfl, (Enc.rd_agr hf15 (m.a00 (Enc.rd_lt hf15))), (Enc.rd_agr hf16 (m.a00 (Enc.rd_lt hf16))), (Enc.rd_agr hf17 (m.a00 (Enc.rd_lt hf17)))⟩) (Enc.rd_agr (Enc.ow_rd hf26) (m.a 1 rfl)) hx35256) fun w35258 e a k m => ?_
               have s := s.trans e (by simp)
               refine wpList_nil ⟨s, ?_⟩
               refine dp k 10 rfl (by kernel_rfl) rfl s (fun _ _ _ => id) rfl fun a k => dp k 11 rfl (by kernel_rfl) rfl s (fun _ _ _ => id) rfl fun a k => dp k 12 rfl (by kernel_rfl) rfl s (fun _ _ _ => id) rfl fun a k => d_one 13 (by kernel_rfl) rfl (s_allocN (cs := [.int .i64 0, .int .i64 0, .int .i64 0, .int .i64 0, .int .i64 0, .int .i64 0, .int .i64 0]) m k zeroValue120 rfl rfl rfl rfl rfl fun b35259 w35261 a k m e hb35260 hbn35262 => ?_)
               have hlo35263 := lo1 (Nat.le_trans s.size hbn35262)
               have s := s.trans e (by simp)
               refine wpList_nil ⟨s, ?_⟩
               refine d_one 14 (by kernel_rfl) rfl (s_stb (cs' := [.int .i64 x35255.1.fId, .int .i64 x35255.1.fW, .int .i64 x35255.1.fH, .int .i64 x35255.1.fD, .int .i64 x35255.1.fGram, .int .i64 x35255.1.fClass, .int .i64 x35255.1.fCount]) sizeOf120 m 0 hb35260 0 k rfl rfl rfl rfl rfl rfl rfl rfl rfl rfl rfl fun w35264 a k e m hb35265 => ?_)
               have s := s.trans e (fun y hy => Or.inr (hlo35263 y hy))
               refine wpList_nil ⟨s, ?_⟩
               refine dp k 15 rfl (by kernel_rfl) rfl s (fun _ _ _ => id) rfl fun a k => d_done (by kernel_rfl) ((nm_then ?_))
               exact ⟨x35255.1, b35259, w35264, x35255.2, k.keep [1, 2, 5, 6, 7, 8, 9, 10, 11] rfl, m.sel [1, 2, 3, 0] rfl (by decide), hb35265, h⟩
             refine s_allocN (cs := [.int .i64 0, .int .i64 0, .int .i64 0, .int .i64 0, .int .i64 0, .int .i64 0, .int .i64 0]) m k zeroValue120 rfl rfl rfl rfl rfl fun b35266 w35268 a k m e hb35267 hbn35269 => ?_
             have hlo35270 := lo1 (Nat.le_trans s.size hbn35269)
             have s := s.trans e (by simp)
             refine wpList_nil ⟨s, ?_⟩
             refine d_one 9 (by kernel_rfl) rfl (oE h fun x35271 hx35272 h => cE k m call102 rfl rfl rfl (c_spec_l6Item fu _ _ _ (show rd _ _ [.int .i64 r1.fWay, .int .i64 r1.fPallet.fW, .int .i64 r1.fPallet.fD, .int .i64 r1.fPallet.fH, .int .i64 r1.fPallet.fGram, .int .i64 r1.fClasses, v9, v11, .int .i64 r1.fMaster, v13] (r1 : Request) from ⟨_, _, _, _, _, _, rfl, rfl, (Enc.rd_agr hf15 (m.a00 (Enc.rd_lt hf15))), (Enc.rd_agr hf16 (m.a00 (Enc.rd_lt hf16))), (Enc.rd_agr hf17 (m.a00 (Enc.rd_lt hf17)))⟩) (Enc.rd_agr (Enc.ow_rd hf26) (m.a 2 rfl)) hx35272) fun w35274 e a k m => ?_)
             have s := s.trans e (by simp)
             refine wpList_nil ⟨s, ?_⟩
             refine dp k 10 rfl (by kernel_rfl) rfl s (fun _ _ _ => id) rfl fun a k => dp k 11 rfl (by kernel_rfl) rfl s (fun _ _ _ => id) rfl fun a k => dp k 12 rfl (by kernel_rfl) rfl s (fun _ _ _ => id) rfl fun a k => d_one 14 (by kernel_rfl) rfl (s_stb (cs' := [.int .i64 x35271.1.fId, .int .i64 x35271.1.fW, .int .i64 x35271.1.fH, .int .i64 x35271.1.fD, .int .i64 x35271.1.fGram, .int .i64 x35271.1.fClass, .int .i64 x35271.1.fCount]) sizeOf120 m 0 hb35267 0 k rfl rfl rfl rfl rfl rfl rfl rfl rfl rfl rfl fun w35275 a k e m hb35276 => ?_)
             have s := s.trans e (fun y hy => Or.inr (hlo35270 y hy))
             refine wpList_nil ⟨s, ?_⟩
             refine dp k 15 rfl (by kernel_rfl) rfl s (fun _ _ _ => id) rfl fun a k => d_done (by kernel_rfl) ((nm_then ?_))
             exact ⟨x35271.1, b35266, w35275, x35271.2, k.keep [1, 2, 5, 6, 7, 8, 9, 10, 11] rfl, m.sel [1, 2, 3, 0] rfl (by decide), hb35276, h⟩
           refine wp_exit (ex_then (ex_then (ex_same (nm_block (nm_then ?_)))))
           exact ⟨k.keep [1, 2, 5, 6, 7, 8] rfl, m.sel [0, 1, 2] rfl (by decide), h⟩
         exact ⟨0, k.keep [1, 2, 5, 6, 7, 8, 9] rfl, m.sel [0, 1, 2] rfl (by decide), h⟩
       refine wp_exit (ex_then (ex_then (ex_same (nm_block (nm_then ?_)))))
       exact ⟨k.keep [1, 2, 5, 6, 7] rfl, m.sel [0, 1, 2] rfl (by decide), h⟩
     exact ⟨0, k.keep [1, 2, 5, 6, 7, 8] rfl, m.sel [0, 1, 2] rfl (by decide), h⟩
   refine wp_exit (ex_then (ex_then (ex_same (nm_then ?_))))
   refine wr (pN 1 k rfl fun a k => nn (wp_ret (fS h k m rfl rfl)))
 exact ⟨0, k.keep [1, 2, 5, 6, 7] rfl, m.sel [2, 1, 0] rfl (by decide), h⟩
theorem c_impl_TypeById_1 (fu : Nat) {w0 : World} (t1 : Typ) (x2 : Int) {b3 : Nat} (hp4 : bx w0 b3 [.int .i64 x2] 3) {r : Bool}
    (h : d_impl_TypeById_1 fu t1 x2 = some r) :
    Calls Tryz.prog 141 #[.agg (Flat.e (t1)).toArray, .pointer (some (⟨b3, 0, none⟩ : Addr))] w0 fun e w => e = .returned (.bool (r)) ∧ Ext [] w0 w := by
 refine enter (vs := [_, _]) func141 rfl ntmps141 rfl fun a k => ?_
 have m := St.start w0
 unfold d_impl_TypeById_1 at h
 refine wr (s_box (cs := [.int .i64 t1.fId, .int .i64 t1.fW, .int .i64 t1.fH, .int .i64 t1.fD, .int .i64 t1.fTare, .int .i64 t1.fGram, .int .i64 t1.fCost]) m k rfl rfl rfl rfl rfl rfl fun b5 w7 a k m e hb6 => pN 1 k rfl fun a k => nn (wr (sv k rfl (r_fa fa92_0 k rfl rfl) fun a k => sv k rfl (r_ldb t13 m 0 hb6 0 k rfl rfl rfl rfl rfl) fun a k => sv k rfl (r_ld1 t13 (r := []) (hp4.at (m.a00 hp4.lt1) 0 1 rfl rfl rfl) k rfl rfl) fun a k => pN 2 k rfl fun a k => nn (wp_ret (fS h k m rfl rfl)))))
theorem c_slices_IndexFunc_impl_Type_impl_Type (fu : Nat) {w0 : World} (sv1 : List Typ) (f5 : Typ → Option Bool) {v2 : Value} {F3 : List Nat} (hp4 : rd w0 F3 [v2] sv1) {v6 : Value} (hp7 : FnOk1 Tryz.prog w0 v6 f5) {r : Int}
    (h : d_slices_IndexFunc_impl_Type_impl_Type fu sv1 f5 = some r) :
    Calls Tryz.prog 140 #[v2, v6] w0 fun e w => e = .returned (.int .i64 r) ∧ Ext [] w0 w := by
 refine enter (vs := [_, _]) func140 rfl ntmps140 rfl fun a k => ?_
 have m := St.start w0
 obtain ⟨fid8, cap9, rfl, hcl10, hcc11⟩ := hp7
 unfold d_slices_IndexFunc_impl_Type_impl_Type at h
 refine wr (pN 1 k rfl fun a k => nn (wp_seq (wr (pN 1 k rfl fun a k => sv k rfl (r_len (α := Typ) hp4 k underlying37 rfl rfl) fun a k => pN 1 k rfl fun a k => nn (wp_block (c_loop (fun n a w => ∃ (x32 : Int), K 19 [(0, v2), (1, (.func (.func fid8) #[] cap9.toArray)), (7, .int .i64 ((sv1.length : Int))), (8, .int .i64 x32)] a ∧ St [] w0 w [] ∧ d_slices_IndexFunc_impl_Type_impl_Type_L1 fu sv1 f5 n x32 = some r) ?_ ?_ fu _ _ ?_))))))
 · rintro a w ⟨_, _, _, h⟩
   exact nS h
 · rintro m33 a w31 ⟨x32, k, m, h⟩
   rw [d_slices_IndexFunc_impl_Type_impl_Type_L1_s] at h
   unfold d_slices_IndexFunc_impl_Type_impl_Type_L1_B at h
   refine wr (pN 1 k rfl fun a k => nn (wp_seq (cI h k rfl (fun hb34 h => ?_) fun hb34 h => ?_)))
   · refine wp_skip (nm_then ?_)
     refine wp_seq (wp_block (wr (pN 2 k rfl fun a k => nn (wr (pN 3 k rfl fun a k => oE h fun x35 hx36 h => sv k rfl (r_ixa hp4 hx36 k ts37 rfl rfl rfl) fun a k => sv k rfl (r_lde hp4 (m.a00 (Enc.rd_lt hp4)) hx36 ta92 k rfl rfl) fun a k => oE h fun x37 hx38 h => s_callv k hcl10 rfl rfl rfl rfl rfl rfl (hcc11 _ _ _ _ m.ext rfl hx38) fun e39 w40 hR => ?_)))))
     obtain ⟨rfl, e⟩ := hR
     refine ⟨_, rfl, fun a k => ?_⟩
     have m := m.step e
     refine nn (cI h k rfl (fun hb41 h => ?_) fun hb41 h => ?_)
     · refine wr (pN 2 k rfl fun a k => nn (wp_ret (rt_block (rt_then (rt_then (rt_block (rt_then ?_)))))))
       refine fS h k m rfl rfl
     refine wp_skip (nm_block (nm_then ?_))
     refine wp_region_lit (pN 2 k rfl fun a k => nn ?_)
     exact ⟨w64 (x32 + 1), k.keep [0, 1, 7, 8] rfl, m.sel [] rfl (by decide), h⟩
   refine wp_exit (ex_then (ex_then (ex_same (nm_then ?_))))
   refine wr (pN 1 k rfl fun a k => nn (wp_ret (fS h k m rfl rfl)))
 exact ⟨0, k.keep [0, 1, 7, 8] rfl, m.sel [] rfl (by decide), h⟩
theorem c_impl_TypeById (fu : Nat) {w0 : World} (r1 : Request) (id5 : Int) {cs2 : List Value} {F3 : List Nat} (hp4 : rd w0 F3 cs2 r1) {r : Typ × Bool}
    (h : d_impl_TypeById fu r1 id5 = some r) :
    Calls Tryz.prog 75 #[.agg cs2.toArray, .int .i64 id5] w0 fun e w => e = .returned (.tuple #[.agg (Flat.e r.1).toArray, .bool (r.2)]) ∧ Ext [] w0 w := by
 refine enter (vs := [_, _]) func75 rfl ntmps75 rfl fun a k => ?_
 have m := St.start w0
 obtain ⟨v6, F7, v8, F9, v10, F11, rfl, rfl, hf12, hf13, hf14⟩ := hp4
 unfold d_impl_TypeById at h
 refine wr (s_box (cs := [.int .i64 r1.fWay, .int .i64 r1.fPallet.fW, .int .i64 r1.fPallet.fD, .int .i64 r1.fPallet.fH, .int .i64 r1.fPallet.fGram, .int .i64 r1.fClasses, v6, v8, .int .i64 r1.fMaster, v10]) m k rfl rfl rfl rfl rfl rfl fun b15 w17 a k m e hb16 => s_box (cs := [.int .i64 id5]) m k rfl rfl rfl rfl rfl rfl fun b18 w20 a k m e hb19 => s_alloc (cs := [.int .i64 0, .int .i64 0, .int .i64 0, .int .i64 0, .int .i64 0, .int .i64 0, .int .i64 0]) m k zeroValue92 rfl rfl rfl rfl rfl fun b21 w23 a k m e hb22 => pN 1 k rfl fun a k => nn (wr (sv k rfl (r_fa fa40_4 k rfl rfl) fun a k => sv k rfl (r_ldb t137 m 2 hb16 7 k rfl rfl rfl rfl rfl) fun a k => pN 1 k rfl fun a k => oE h fun x27 hx28 h => ?_)))
 refine cE k m call140 rfl rfl rfl (c_slices_IndexFunc_impl_Type_impl_Type fu _ _ (Enc.rd_agr hf13 (m.a00 (Enc.rd_lt hf13))) ⟨141, [.pointer (some (⟨b18, 0, none⟩ : Addr))], rfl, call141, fun w y24 v25 r e hv26 hx => by subst hv26; have m := m.step e; exact c_impl_TypeById_1 fu _ _ (hb19.agr (m.a 1 rfl) (by simp)) hx⟩ hx28) fun w30 e a k m => pN 1 k rfl fun a k => nn (wp_seq (wr (pN 2 k rfl fun a k => nn (cI h k rfl (fun hb31 h => ?_) fun hb31 h => ?_))))
 · refine wr (sv k rfl (r_build bt92 k (ps := []) rfl rfl rfl) fun a k => s_stb (cs' := [.int .i64 0, .int .i64 0, .int .i64 0, .int .i64 0, .int .i64 0, .int .i64 0, .int .i64 0]) sizeOf92 m 0 hb22 0 k rfl rfl rfl rfl rfl rfl rfl rfl rfl rfl rfl fun w32 a k e m hb33 => pN 1 k rfl fun a k => nn (wp_ret (rt_then ?_)))
   cases h
   exact finR2 k rfl (RV.cA k rfl ta92 (hb33.at (m.a 0 rfl) 0 7 rfl rfl rfl) rfl) (RV.tmp k rfl) ⟨rfl, m.ext⟩
 refine wp_skip (nm_then ?_)
 refine wr (sv k rfl (r_fa fa40_4 k rfl rfl) fun a k => sv k rfl (r_ldb t137 m 2 hb16 7 k rfl rfl rfl rfl rfl) fun a k => pN 1 k rfl fun a k => oE h fun x34 hx35 h => sv k rfl (r_ixa hf13 hx35 k ts37 rfl rfl rfl) fun a k => sv k rfl (r_lde hf13 (m.a00 (Enc.rd_lt hf13)) hx35 ta92 k rfl rfl) fun a k => s_stb (cs' := [.int .i64 x34.fId, .int .i64 x34.fW, .int .i64 x34.fH, .int .i64 x34.fD, .int .i64 x34.fTare, .int .i64 x34.fGram, .int .i64 x34.fCost]) sizeOf92 m 0 hb22 0 k rfl rfl rfl rfl rfl rfl rfl rfl rfl rfl rfl fun w36 a k e m hb37 => pN 1 k rfl fun a k => nn (wp_ret ?_))
 cases h
 exact finR2 k rfl (RV.cA k rfl ta92 (hb37.at (m.a 0 rfl) 0 7 rfl rfl rfl) rfl) (RV.tmp k rfl) ⟨rfl, m.ext⟩
theorem c_impl_MasterOf (fu : Nat) {w0 : World} (r1 : Request) {cs2 : List Value} {F3 : List Nat} (hp4 : rd w0 F3 cs2 r1) {r : Typ × Bool}
    (h : d_impl_MasterOf fu r1 = some r) :
    Calls Tryz.prog 148 #[.agg cs2.toArray] w0 fun e w => e = .returned (.tuple #[.agg (Flat.e r.1).toArray, .bool (r.2)]) ∧ Ext [] w0 w := by
 refine enter (vs := [_]) func148 rfl ntmps148 rfl fun a k => ?_
 have m := St.start w0
 obtain ⟨v5, F6, v7, F8, v9, F10, rfl, rfl, hf11, hf12, hf13⟩ := hp4
 unfold d_impl_MasterOf at h
 refine wr (s_box (cs := [.int .i64 r1.fWay, .int .i64 r1.fPallet.fW, .int .i64 r1.fPallet.fD, .int .i64 r1.fPallet.fH, .int .i64 r1.fPallet.fGram, .int .i64 r1.fClasses, v5, v7, .int .i64 r1.fMaster, v9]) m k rfl rfl rfl rfl rfl rfl fun b14 w16 a k m e hb15 => s_alloc (cs := [.int .i64 0, .int .i64 0, .int .i64 0, .int .i64 0, .int .i64 0, .int .i64 0, .int .i64 0]) m k zeroValue92 rfl rfl rfl rfl rfl fun b17 w19 a k m e hb18 => pN 1 k rfl fun a k => nn (wr (sv k rfl (r_ldB ta40 m 1 hb15 0 k rfl rfl rfl rfl rfl rfl) fun a k => sv k rfl (r_fa fa40_5 k rfl rfl) fun a k => sv k rfl (r_ldb t13 m 1 hb15 8 k rfl rfl rfl rfl rfl) fun a k => oE h fun x20 hx21 h => ?_)))
 refine cE k m call75 rfl rfl rfl (c_impl_TypeById fu _ _ (show rd _ _ [.int .i64 r1.fWay, .int .i64 r1.fPallet.fW, .int .i64 r1.fPallet.fD, .int .i64 r1.fPallet.fH, .int .i64 r1.fPallet.fGram, .int .i64 r1.fClasses, v5, v7, .int .i64 r1.fMaster, v9] (r1 : Request) from ⟨_, _, _, _, _, _, rfl, rfl, (Enc.rd_agr hf11 (m.a00 (Enc.rd_lt hf11))), (Enc.rd_agr hf12 (m.a00 (Enc.rd_lt hf12))), (Enc.rd_agr hf13 (m.a00 (Enc.rd_lt hf13)))⟩) hx21) fun w23 e a k m => pN 2 k rfl fun a k => s_stb (cs' := [.int .i64 x20.1.fId, .int .i64 x20.1.fW, .int .i64 x20.1.fH, .int .i64 x20.1.fD, .int .i64 x20.1.fTare, .int .i64 x20.1.fGram, .int .i64 x20.1.fCost]) sizeOf92 m 0 hb18 0 k rfl rfl rfl rfl rfl rfl rfl rfl rfl rfl rfl fun w24 a k e m hb25 => pN 1 k rfl fun a k => nn (wp_ret ?_)
 cases h
 exact finR2 k rfl (RV.cA k rfl ta92 (hb25.at (m.a 0 rfl) 0 7 rfl rfl rfl) rfl) (RV.tmp k rfl) ⟨rfl, m.ext⟩
theorem c_impl_in (fu : Nat) {w0 : World} (n1 : Int) (lo2 : Int) (hi3 : Int)  {r : Bool}
    (h : d_impl_in fu n1 lo2 hi3 = some r) :
    Calls Tryz.prog 99 #[.int .i64 n1, .int .i64 lo2, .int .i64 hi3] w0 fun e w => e = .returned (.bool (r)) ∧ Ext [] w0 w := by
 refine enter (vs := [_, _, _]) func99 rfl ntmps99 rfl fun a k => ?_
 have m := St.start w0
 unfold d_impl_in at h
 refine wr (pN 1 k rfl fun a k => nn (wr (pN 4 k rfl fun a k => bsplit (decide (n1 ≥ lo2)) (fun hb4 => ?_) (fun hb4 => ?_))))
 · have h := bif_t hb4 h
   refine rB k 10 rfl hb4 fun k => pN 5 k rfl fun a k => nn (wp_ret (fS h k m rfl rfl))
 have h := bif_f hb4 h
 refine rB k 10 rfl hb4 fun k => pN 5 k rfl fun a k => nn (wp_ret (fS h k m rfl rfl))
theorem c_impl_isSide (fu : Nat) {w0 : World} (n1 : Int)  {r : Bool}
    (h : d_impl_isSide fu n1 = some r) :
    Calls Tryz.prog 224 #[.int .i64 n1] w0 fun e w => e = .returned (.bool (r)) ∧ Ext [] w0 w := by
 refine enter (vs := [_]) func224 rfl ntmps224 rfl fun a k => ?_
 have m := St.start w0
 unfold d_impl_isSide at h
 refine wr (pN 1 k rfl fun a k => nn (wr (pN 1 k rfl fun a k => oE h fun x2 hx3 h => cE k m call99 rfl rfl rfl (c_impl_in fu _ _ _  hx3) fun w5 e a k m => pN 1 k rfl fun a k => nn (wp_ret (fS h k m rfl rfl)))))
theorem c_impl_PalletOk (fu : Nat) {w0 : World} (x1 : Pallet)  {r : Bool}
    (h : d_impl_PalletOk fu x1 = some r) :
    Calls Tryz.prog 199 #[.agg (Flat.e (x1)).toArray] w0 fun e w => e = .returned (.bool (r)) ∧ Ext [] w0 w := by
 refine enter (vs := [_]) func199 rfl ntmps199 rfl fun a k => ?_
 have m := St.start w0
 unfold d_impl_PalletOk at h
 refine wr (s_box (cs := [.int .i64 x1.fW, .int .i64 x1.fD, .int .i64 x1.fH, .int .i64 x1.fGram]) m k rfl rfl rfl rfl rfl rfl fun b2 w4 a k m e hb3 => pN 1 k rfl fun a k => nn (wr (sv k rfl (r_fa fa35_0 k rfl rfl) fun a k => sv k rfl (r_ldb t13 m 0 hb3 0 k rfl rfl rfl rfl rfl) fun a k => oE h fun x5 hx6 h => cE k m call224 rfl rfl rfl (c_impl_isSide fu _  hx6) fun w8 e a k m => pN 1 k rfl fun a k => bsplit (x5) (fun hb9 => ?_) (fun hb9 => ?_))))
 · have h := bif_t hb9 h
   refine rB k 6 rfl hb9 fun k => sv k rfl (r_fa fa35_1 k rfl rfl) fun a k => sv k rfl (r_ldb t13 m 0 hb3 1 k rfl rfl rfl rfl rfl) fun a k => oE h fun x10 hx11 h => cE k m call224 rfl rfl rfl (c_impl_isSide fu _  hx11) fun w13 e a k m => pN 2 k rfl fun a k => bsplit (x10) (fun hb14 => ?_) (fun hb14 => ?_)
   · have h := bif_t hb14 h
     refine rB k 11 rfl hb14 fun k => sv k rfl (r_fa fa35_2 k rfl rfl) fun a k => sv k rfl (r_ldb t13 m 0 hb3 2 k rfl rfl rfl rfl rfl) fun a k => oE h fun x15 hx16 h => cE k m call224 rfl rfl rfl (c_impl_isSide fu _  hx16) fun w18 e a k m => pN 2 k rfl fun a k => bsplit (x15) (fun hb19 => ?_) (fun hb19 => ?_)
     · have h := bif_t hb19 h
       refine rB k 16 rfl hb19 fun k => sv k rfl (r_fa fa35_3 k rfl rfl) fun a k => sv k rfl (r_ldb t13 m 0 hb3 3 k rfl rfl rfl rfl rfl) fun a k => oE h fun x20 hx21 h => cE k m call99 rfl rfl rfl (c_impl_in fu _ _ _  hx21) fun w23 e a k m => pN 2 k rfl fun a k => nn (wp_ret (fS h k m rfl rfl))
     have h := bif_f hb19 h
     refine rB k 16 rfl hb19 fun k => pN 5 k rfl fun a k => nn (wp_ret (fS h k m rfl rfl))
   have h := bif_f hb14 h
   refine rB k 11 rfl hb14 fun k => pN 10 k rfl fun a k => nn (wp_ret (fS h k m rfl rfl))
 have h := bif_f hb9 h
 refine rB k 6 rfl hb9 fun k => pN 15 k rfl fun a k => nn (wp_ret (fS h k m rfl rfl))
theorem c_slices_IndexFunc_impl_Pair_impl_Pair (fu : Nat) {w0 : World} (sv1 : List Pair) (f5 : Pair → Option Bool) {v2 : Value} {F3 : List Nat} (hp4 : rd w0 F3 [v2] sv1) {v6 : Value} (hp7 : FnOk1 Tryz.prog w0 v6 f5) {r : Int}
    (h : d_slices_IndexFunc_impl_Pair_impl_Pair fu sv1 f5 = some r) :
    Calls Tryz.prog 225 #[v2, v6] w0 fun e w => e = .returned (.int .i64 r) ∧ Ext [] w0 w := by
 refine enter (vs := [_, _]) func225 rfl ntmps225 rfl fun a k => ?_
 have m := St.start w0
 obtain ⟨fid8, cap9, rfl, hcl10, hcc11⟩ := hp7
 unfold d_slices_IndexFunc_impl_Pair_impl_Pair at h
 refine wr (pN 1 k rfl fun a k => nn (wp_seq (wr (pN 1 k rfl fun a k => sv k rfl (r_len (α := Pair) hp4 k underlying36 rfl rfl) fun a k => pN 1 k rfl fun a k => nn (wp_block (c_loop (fun n a w => ∃ (x32 : Int), K 19 [(0, v2), (1, (.func (.func fid8) #[] cap9.toArray)), (7, .int .i64 ((sv1.length : Int))), (8, .int .i64 x32)] a ∧ St [] w0 w [] ∧ d_slices_IndexFunc_impl_Pair_impl_Pair_L1 fu sv1 f5 n x32 = some r) ?_ ?_ fu _ _ ?_))))))
 · rintro a w ⟨_, _, _, h⟩
   exact nS h
 · rintro m33 a w31 ⟨x32, k, m, h⟩
   rw [d_slices_IndexFunc_impl_Pair_impl_Pair_L1_s] at h
   unfold d_slices_IndexFunc_impl_Pair_impl_Pair_L1_B at h
   refine wr (pN 1 k rfl fun a k => nn (wp_seq (cI h k rfl (fun hb34 h => ?_) fun hb34 h => ?_)))
   · refine wp_skip (nm_then ?_)
     refine wp_seq (wp_block (wr (pN 2 k rfl fun a k => nn (wr (pN 3 k rfl fun a k => oE h fun x35 hx36 h => sv k rfl (r_ixa hp4 hx36 k ts36 rfl rfl rfl) fun a k => sv k rfl (r_lde hp4 (m.a00 (Enc.rd_lt hp4)) hx36 ta144 k rfl rfl) fun a k => oE h fun x37 hx38 h => s_callv k hcl10 rfl rfl rfl rfl rfl rfl (hcc11 _ _ _ _ m.ext rfl hx38) fun e39 w40 hR => ?_)))))
     obtain ⟨rfl, e⟩ := hR
     refine ⟨_, rfl, fun a k => ?_⟩
     have m := m.step e
     refine nn (cI h k rfl (fun hb41 h => ?_) fun hb41 h => ?_)
     · refine wr (pN 2 k rfl fun a k => nn (wp_ret (rt_block (rt_then (rt_then (rt_block (rt_then ?_)))))))
       refine fS h k m rfl rfl
     refine wp_skip (nm_block (nm_then ?_))
     refine wp_region_lit (pN 2 k rfl fun a k => nn ?_)
     exact ⟨w64 (x32 + 1), k.keep [0, 1, 7, 8] rfl, m.sel [] rfl (by decide), h⟩
   refine wp_exit (ex_then (ex_then (ex_same (nm_then ?_))))
   refine wr (pN 1 k rfl fun a k => nn (wp_ret (fS h k m rfl rfl)))
 exact ⟨0, k.keep [0, 1, 7, 8] rfl, m.sel [] rfl (by decide), h⟩
theorem c_slices_ContainsFunc_impl_Pair_impl_Pair (fu : Nat) {w0 : World} (sv1 : List Pair) (f5 : Pair → Option Bool) {v2 : Value} {F3 : List Nat} (hp4 : rd w0 F3 [v2] sv1) {v6 : Value} (hp7 : FnOk1 Tryz.prog w0 v6 f5) {r : Bool}
    (h : d_slices_ContainsFunc_impl_Pair_impl_Pair fu sv1 f5 = some r) :
    Calls Tryz.prog 200 #[v2, v6] w0 fun e w => e = .returned (.bool (r)) ∧ Ext [] w0 w := by
 refine enter (vs := [_, _]) func200 rfl ntmps200 rfl fun a k => ?_
 have m := St.start w0
 obtain ⟨fid8, cap9, rfl, hcl10, hcc11⟩ := hp7
 unfold d_slices_ContainsFunc_impl_Pair_impl_Pair at h
 refine wr (pN 1 k rfl fun a k => nn (wr (pN 2 k rfl fun a k => oE h fun x14 hx15 h => cE k m call225 rfl rfl rfl (c_slices_IndexFunc_impl_Pair_impl_Pair fu _ _ (Enc.rd_agr hp4 (m.a00 (Enc.rd_lt hp4))) ⟨_, _, rfl, hcl10, fun w y12 v13 r e => hcc11 w y12 v13 r (m.ext.trans e (by simp))⟩ hx15) fun w17 e a k m => pN 2 k rfl fun a k => nn (wp_ret (fS h k m rfl rfl)))))
theorem c_impl_BoundsOk_1 (fu : Nat) {w0 : World} (p1 : Pair)  {r : Bool}
    (h : d_impl_BoundsOk_1 fu p1 = some r) :
    Calls Tryz.prog 201 #[.agg (Flat.e (p1)).toArray] w0 fun e w => e = .returned (.bool (r)) ∧ Ext [] w0 w := by
 refine enter (vs := [_]) func201 rfl ntmps201 rfl fun a k => ?_
 have m := St.start w0
 unfold d_impl_BoundsOk_1 at h
 refine wr (s_box (cs := [.int .i64 p1.fA, .int .i64 p1.fB]) m k rfl rfl rfl rfl rfl rfl fun b2 w4 a k m e hb3 => pN 1 k rfl fun a k => nn (wr (sv k rfl (r_fa fa144_0 k rfl rfl) fun a k => sv k rfl (r_ldb t13 m 0 hb3 0 k rfl rfl rfl rfl rfl) fun a k => oE h fun x5 hx6 h => cE k m call99 rfl rfl rfl (c_impl_in fu _ _ _  hx6) fun w8 e a k m => pN 2 k rfl fun a k => bsplit (!x5) (fun hb9 => ?_) (fun hb9 => ?_))))
 · have h := bif_t hb9 h
   refine rB k 7 rfl hb9 fun k => pN 6 k rfl fun a k => nn (wp_ret (fS h k m rfl rfl))
 have h := bif_f hb9 h
 refine rB k 7 rfl hb9 fun k => sv k rfl (r_fa fa144_1 k rfl rfl) fun a k => sv k rfl (r_ldb t13 m 0 hb3 1 k rfl rfl rfl rfl rfl) fun a k => oE h fun x10 hx11 h => cE k m call99 rfl rfl rfl (c_impl_in fu _ _ _  hx11) fun w13 e a k m => pN 3 k rfl fun a k => nn (wp_ret (fS h k m rfl rfl))
theorem c_slices_ContainsFunc_impl_Type_impl_Type (fu : Nat) {w0 : World} (sv1 : List Typ) (f5 : Typ → Option Bool) {v2 : Value} {F3 : List Nat} (hp4 : rd w0 F3 [v2] sv1) {v6 : Value} (hp7 : FnOk1 Tryz.prog w0 v6 f5) {r : Bool}
    (h : d_slices_ContainsFunc_impl_Type_impl_Type fu sv1 f5 = some r) :
    Calls Tryz.prog 184 #[v2, v6] w0 fun e w => e = .returned (.bool (r)) ∧ Ext [] w0 w := by
 refine enter (vs := [_, _]) func184 rfl ntmps184 rfl fun a k => ?_
 have m := St.start w0
 obtain ⟨fid8, cap9, rfl, hcl10, hcc11⟩ := hp7
 unfold d_slices_ContainsFunc_impl_Type_impl_Type at h
 refine wr (pN 1 k rfl fun a k => nn (wr (pN 2 k rfl fun a k => oE h fun x14 hx15 h => cE k m call140 rfl rfl rfl (c_slices_IndexFunc_impl_Type_impl_Type fu _ _ (Enc.rd_agr hp4 (m.a00 (Enc.rd_lt hp4))) ⟨_, _, rfl, hcl10, fun w y12 v13 r e => hcc11 w y12 v13 r (m.ext.trans e (by simp))⟩ hx15) fun w17 e a k m => pN 2 k rfl fun a k => nn (wp_ret (fS h k m rfl rfl)))))
theorem c_impl_TypeOk (fu : Nat) {w0 : World} (x1 : Typ)  {r : Bool}
    (h : d_impl_TypeOk fu x1 = some r) :
    Calls Tryz.prog 203 #[.agg (Flat.e (x1)).toArray] w0 fun e w => e = .returned (.bool (r)) ∧ Ext [] w0 w := by
 refine enter (vs := [_]) func203 rfl ntmps203 rfl fun a k => ?_
 have m := St.start w0
 unfold d_impl_TypeOk at h
 refine wr (s_box (cs := [.int .i64 x1.fId, .int .i64 x1.fW, .int .i64 x1.fH, .int .i64 x1.fD, .int .i64 x1.fTare, .int .i64 x1.fGram, .int .i64 x1.fCost]) m k rfl rfl rfl rfl rfl rfl fun b2 w4 a k m e hb3 => pN 1 k rfl fun a k => nn (wr (sv k rfl (r_fa fa92_0 k rfl rfl) fun a k => sv k rfl (r_ldb t13 m 0 hb3 0 k rfl rfl rfl rfl rfl) fun a k => oE h fun x5 hx6 h => cE k m call99 rfl rfl rfl (c_impl_in fu _ _ _  hx6) fun w8 e a k m => pN 1 k rfl fun a k => bsplit (x5) (fun hb9 => ?_) (fun hb9 => ?_))))
 · have h := bif_t hb9 h
   refine rB k 6 rfl hb9 fun k => sv k rfl (r_fa fa92_1 k rfl rfl) fun a k => sv k rfl (r_ldb t13 m 0 hb3 1 k rfl rfl rfl rfl rfl) fun a k => oE h fun x10 hx11 h => cE k m call224 rfl rfl rfl (c_impl_isSide fu _  hx11) fun w13 e a k m => pN 2 k rfl fun a k => bsplit (x10) (fun hb14 => ?_) (fun hb14 => ?_)
   · have h := bif_t hb14 h
     refine rB k 11 rfl hb14 fun k => sv k rfl (r_fa fa92_2 k rfl rfl) fun a k => sv k rfl (r_ldb t13 m 0 hb3 2 k rfl rfl rfl rfl rfl) fun a k => oE h fun x15 hx16 h => cE k m call224 rfl rfl rfl (c_impl_isSide fu _  hx16) fun w18 e a k m => pN 2 k rfl fun a k => bsplit (x15) (fun hb19 => ?_) (fun hb19 => ?_)
     · have h := bif_t hb19 h
       refine rB k 16 rfl hb19 fun k => sv k rfl (r_fa fa92_3 k rfl rfl) fun a k => sv k rfl (r_ldb t13 m 0 hb3 3 k rfl rfl rfl rfl rfl) fun a k => oE h fun x20 hx21 h => cE k m call224 rfl rfl rfl (c_impl_isSide fu _  hx21) fun w23 e a k m => pN 2 k rfl fun a k => bsplit (x20) (fun hb24 => ?_) (fun hb24 => ?_)
       · have h := bif_t hb24 h
         refine rB k 21 rfl hb24 fun k => sv k rfl (r_fa fa92_4 k rfl rfl) fun a k => sv k rfl (r_ldb t13 m 0 hb3 4 k rfl rfl rfl rfl rfl) fun a k => oE h fun x25 hx26 h => cE k m call99 rfl rfl rfl (c_impl_in fu _ _ _  hx26) fun w28 e a k m => pN 2 k rfl fun a k => bsplit (x25) (fun hb29 => ?_) (fun hb29 => ?_)
         · have h := bif_t hb29 h
           refine rB k 26 rfl hb29 fun k => sv k rfl (r_fa fa92_5 k rfl rfl) fun a k => sv k rfl (r_ldb t13 m 0 hb3 5 k rfl rfl rfl rfl rfl) fun a k => oE h fun x30 hx31 h => cE k m call99 rfl rfl rfl (c_impl_in fu _ _ _  hx31) fun w33 e a k m => pN 2 k rfl fun a k => bsplit (x30) (fun hb34 => ?_) (fun hb34 => ?_)
           · have h := bif_t hb34 h
             refine rB k 31 rfl hb34 fun k => sv k rfl (r_fa fa92_6 k rfl rfl) fun a k => sv k rfl (r_ldb t13 m 0 hb3 6 k rfl rfl rfl rfl rfl) fun a k => oE h fun x35 hx36 h => cE k m call99 rfl rfl rfl (c_impl_in fu _ _ _  hx36) fun w38 e a k m => pN 2 k rfl fun a k => ?_
             have k := k.keep [2] rfl
             refine nn (wp_ret (fS h k m rfl rfl))
           have h := bif_f hb34 h
           refine rB k 31 rfl hb34 fun k => pN 5 k rfl fun a k => ?_
           have k := k.keep [2] rfl
           refine nn (wp_ret (fS h k m rfl rfl))
         have h := bif_f hb29 h
         refine rB k 26 rfl hb29 fun k => pN 10 k rfl fun a k => ?_
         have k := k.keep [2] rfl
         refine nn (wp_ret (fS h k m rfl rfl))
       have h := bif_f hb24 h
       refine rB k 21 rfl hb24 fun k => pN 15 k rfl fun a k => ?_
       have k := k.keep [2] rfl
       refine nn (wp_ret (fS h k m rfl rfl))
     have h := bif_f hb19 h
     refine rB k 16 rfl hb19 fun k => pN 20 k rfl fun a k => ?_
     have k := k.keep [2] rfl
     refine nn (wp_ret (fS h k m rfl rfl))
   have h := bif_f hb14 h
   refine rB k 11 rfl hb14 fun k => pN 25 k rfl fun a k => ?_
   have k := k.keep [2] rfl
   refine nn (wp_ret (fS h k m rfl rfl))
 have h := bif_f hb9 h
 refine rB k 6 rfl hb9 fun k => pN 30 k rfl fun a k => ?_
 have k := k.keep [2] rfl
 refine nn (wp_ret (fS h k m rfl rfl))
theorem c_impl_BoundsOk_2 (fu : Nat) {w0 : World} (t1 : Typ)  {r : Bool}
    (h : d_impl_BoundsOk_2 fu t1 = some r) :
    Calls Tryz.prog 202 #[.agg (Flat.e (t1)).toArray] w0 fun e w => e = .returned (.bool (r)) ∧ Ext [] w0 w := by
 refine enter (vs := [_]) func202 rfl ntmps202 rfl fun a k => ?_
 have m := St.start w0
 unfold d_impl_BoundsOk_2 at h
 refine wr (s_box (cs := [.int .i64 t1.fId, .int .i64 t1.fW, .int .i64 t1.fH, .int .i64 t1.fD, .int .i64 t1.fTare, .int .i64 t1.fGram, .int .i64 t1.fCost]) m k rfl rfl rfl rfl rfl rfl fun b2 w4 a k m e hb3 => pN 1 k rfl fun a k => nn (wr (sv k rfl (r_ldB ta92 m 0 hb3 0 k rfl rfl rfl rfl rfl rfl) fun a k => oE h fun x5 hx6 h => cE k m call203 rfl rfl rfl (c_impl_TypeOk fu (t1 : Typ)  hx6) fun w8 e a k m => pN 2 k rfl fun a k => nn (wp_ret (fS h k m rfl rfl)))))
theorem c_impl_ItemOk (fu : Nat) {w0 : World} (x1 : Item)  {r : Bool}
    (h : d_impl_ItemOk fu x1 = some r) :
    Calls Tryz.prog 204 #[.agg (Flat.e (x1)).toArray] w0 fun e w => e = .returned (.bool (r)) ∧ Ext [] w0 w := by
 refine enter (vs := [_]) func204 rfl ntmps204 rfl fun a k => ?_
 have m := St.start w0
 unfold d_impl_ItemOk at h
 refine wr (s_box (cs := [.int .i64 x1.fId, .int .i64 x1.fW, .int .i64 x1.fH, .int .i64 x1.fD, .int .i64 x1.fGram, .int .i64 x1.fClass, .int .i64 x1.fCount]) m k rfl rfl rfl rfl rfl rfl fun b2 w4 a k m e hb3 => pN 1 k rfl fun a k => nn (wr (sv k rfl (r_fa fa120_0 k rfl rfl) fun a k => sv k rfl (r_ldb t13 m 0 hb3 0 k rfl rfl rfl rfl rfl) fun a k => oE h fun x5 hx6 h => cE k m call99 rfl rfl rfl (c_impl_in fu _ _ _  hx6) fun w8 e a k m => pN 1 k rfl fun a k => bsplit (x5) (fun hb9 => ?_) (fun hb9 => ?_))))
 · have h := bif_t hb9 h
   refine rB k 6 rfl hb9 fun k => sv k rfl (r_fa fa120_1 k rfl rfl) fun a k => sv k rfl (r_ldb t13 m 0 hb3 1 k rfl rfl rfl rfl rfl) fun a k => oE h fun x10 hx11 h => cE k m call224 rfl rfl rfl (c_impl_isSide fu _  hx11) fun w13 e a k m => pN 2 k rfl fun a k => bsplit (x10) (fun hb14 => ?_) (fun hb14 => ?_)
   · have h := bif_t hb14 h
     refine rB k 11 rfl hb14 fun k => sv k rfl (r_fa fa120_2 k rfl rfl) fun a k => sv k rfl (r_ldb t13 m 0 hb3 2 k rfl rfl rfl rfl rfl) fun a k => oE h fun x15 hx16 h => cE k m call224 rfl rfl rfl (c_impl_isSide fu _  hx16) fun w18 e a k m => pN 2 k rfl fun a k => bsplit (x15) (fun hb19 => ?_) (fun hb19 => ?_)
     · have h := bif_t hb19 h
       refine rB k 16 rfl hb19 fun k => sv k rfl (r_fa fa120_3 k rfl rfl) fun a k => sv k rfl (r_ldb t13 m 0 hb3 3 k rfl rfl rfl rfl rfl) fun a k => oE h fun x20 hx21 h => cE k m call224 rfl rfl rfl (c_impl_isSide fu _  hx21) fun w23 e a k m => pN 2 k rfl fun a k => bsplit (x20) (fun hb24 => ?_) (fun hb24 => ?_)
       · have h := bif_t hb24 h
         refine rB k 21 rfl hb24 fun k => sv k rfl (r_fa fa120_4 k rfl rfl) fun a k => sv k rfl (r_ldb t13 m 0 hb3 4 k rfl rfl rfl rfl rfl) fun a k => oE h fun x25 hx26 h => cE k m call99 rfl rfl rfl (c_impl_in fu _ _ _  hx26) fun w28 e a k m => pN 2 k rfl fun a k => bsplit (x25) (fun hb29 => ?_) (fun hb29 => ?_)
         · have h := bif_t hb29 h
           refine rB k 26 rfl hb29 fun k => sv k rfl (r_fa fa120_5 k rfl rfl) fun a k => sv k rfl (r_ldb t13 m 0 hb3 5 k rfl rfl rfl rfl rfl) fun a k => oE h fun x30 hx31 h => cE k m call99 rfl rfl rfl (c_impl_in fu _ _ _  hx31) fun w33 e a k m => pN 2 k rfl fun a k => bsplit (x30) (fun hb34 => ?_) (fun hb34 => ?_)
           · have h := bif_t hb34 h
             refine rB k 31 rfl hb34 fun k => sv k rfl (r_fa fa120_6 k rfl rfl) fun a k => sv k rfl (r_ldb t13 m 0 hb3 6 k rfl rfl rfl rfl rfl) fun a k => oE h fun x35 hx36 h => cE k m call99 rfl rfl rfl (c_impl_in fu _ _ _  hx36) fun w38 e a k m => pN 2 k rfl fun a k => ?_
             have k := k.keep [2] rfl
             refine nn (wp_ret (fS h k m rfl rfl))
           have h := bif_f hb34 h
           refine rB k 31 rfl hb34 fun k => pN 5 k rfl fun a k => ?_
           have k := k.keep [2] rfl
           refine nn (wp_ret (fS h k m rfl rfl))
         have h := bif_f hb29 h
         refine rB k 26 rfl hb29 fun k => pN 10 k rfl fun a k => ?_
         have k := k.keep [2] rfl
         refine nn (wp_ret (fS h k m rfl rfl))
       have h := bif_f hb24 h
       refine rB k 21 rfl hb24 fun k => pN 15 k rfl fun a k => ?_
       have k := k.keep [2] rfl
       refine nn (wp_ret (fS h k m rfl rfl))
     have h := bif_f hb19 h
     refine rB k 16 rfl hb19 fun k => pN 20 k rfl fun a k => ?_
     have k := k.keep [2] rfl
     refine nn (wp_ret (fS h k m rfl rfl))
   have h := bif_f hb14 h
   refine rB k 11 rfl hb14 fun k => pN 25 k rfl fun a k => ?_
   have k := k.keep [2] rfl
   refine nn (wp_ret (fS h k m rfl rfl))
 have h := bif_f hb9 h
 refine rB k 6 rfl hb9 fun k => pN 30 k rfl fun a k => ?_
 have k := k.keep [2] rfl
 refine nn (wp_ret (fS h k m rfl rfl))
theorem c_impl_BoundsOk (fu : Nat) {w0 : World} (r1 : Request) {cs2 : List Value} {F3 : List Nat} (hp4 : rd w0 F3 cs2 r1) {r : Bool}
    (h : d_impl_BoundsOk fu r1 = some r) :
    Calls Tryz.prog 179 #[.agg cs2.toArray] w0 fun e w => e = .returned (.bool (r)) ∧ Ext [] w0 w := by
 refine enter (vs := [_]) func179 rfl ntmps179 rfl fun a k => ?_
 have m := St.start w0
 obtain ⟨v5, F6, v7, F8, v9, F10, rfl, rfl, hf11, hf12, hf13⟩ := hp4
 unfold d_impl_BoundsOk at h
 refine wr (s_box (cs := [.int .i64 r1.fWay, .int .i64 r1.fPallet.fW, .int .i64 r1.fPallet.fD, .int .i64 r1.fPallet.fH, .int .i64 r1.fPallet.fGram, .int .i64 r1.fClasses, v5, v7, .int .i64 r1.fMaster, v9]) m k rfl rfl rfl rfl rfl rfl fun b14 w16 a k m e hb15 => pN 1 k rfl fun a k => nn (c_cut (fun a w => K 70 [(1, .pointer (some (⟨b14, 0, none⟩ : Addr)))] a ∧ St [] w0 w [([b14], w16)] ∧ d_impl_BoundsOk_J2 fu r1 = some r) ?_ ?_))
 · rintro a w33 ⟨k, m, h⟩
   unfold d_impl_BoundsOk_J2 at h
   refine wp_seq (wr (sv k rfl (r_fa fa40_3 k rfl rfl) fun a k => sv k rfl (r_ldb t136 m 0 hb15 6 k rfl rfl rfl rfl rfl) fun a k => oE h fun x37 hx38 h => cE k m call200 rfl rfl rfl (c_slices_ContainsFunc_impl_Pair_impl_Pair fu _ _ (Enc.rd_agr hf11 (m.a00 (Enc.rd_lt hf11))) ⟨201, [], rfl, call201, fun w y34 v35 r e hv36 hx => by subst hv36; have m := m.step e; exact c_impl_BoundsOk_1 fu _  hx⟩ hx38) fun w40 e a k m => nn (cI h k rfl (fun hb41 h => ?_) fun hb41 h => ?_)))
   · refine wr (pN 1 k rfl fun a k => nn (wp_ret (rt_then ?_)))
     refine fS h k m rfl rfl
   refine wp_skip (nm_then ?_)
   refine c_cut (fun a w => K 70 [(1, .pointer (some (⟨b14, 0, none⟩ : Addr)))] a ∧ St [] w0 w [([b14], w16)] ∧ d_impl_BoundsOk_J1 fu r1 = some r) ?_ ?_
   · rintro a w61 ⟨k, m, h⟩
     unfold d_impl_BoundsOk_J1 at h
     refine wr (pN 1 k rfl fun a k => nn (wp_seq (wr (sv k rfl (r_fa fa40_6 k rfl rfl) fun a k => sv k rfl (r_ldb t138 m 0 hb15 9 k rfl rfl rfl rfl rfl) fun a k => sv k rfl (r_len (α := Item) hf13 k underlying38 rfl rfl) fun a k => pN 1 k rfl fun a k => nn (wp_block (c_loop (fun n a w => ∃ (units93 : Int) (x94 : Int), K 70 [(3, .int .i64 units93), (54, v9), (55, .int .i64 ((r1.fItems.length : Int))), (56, .int .i64 x94)] a ∧ St [] w0 w [] ∧ d_impl_BoundsOk_L1 fu r1 n units93 x94 = some r) ?_ ?_ fu _ _ ?_))))))
     · rintro a w ⟨_, _, _, _, h⟩
       exact nS h
     · rintro m95 a w92 ⟨units93, x94, k, m, h⟩
       rw [d_impl_BoundsOk_L1_s] at h
       unfold d_impl_BoundsOk_L1_B at h
       refine wr (pN 1 k rfl fun a k => nn (wp_seq (cI h k rfl (fun hb96 h => ?_) fun hb96 h => ?_)))
       · refine wp_skip (nm_then ?_)
         refine wp_seq (wp_block (wr (oE h fun x97 hx98 h => sv k rfl (r_ixa hf13 hx98 k ts38 rfl rfl rfl) fun a k => sv k rfl (r_lde hf13 (m.a00 (Enc.rd_lt hf13)) hx98 ta120 k rfl rfl) fun a k => s_alloc (cs := [.int .i64 0, .int .i64 0, .int .i64 0, .int .i64 0, .int .i64 0, .int .i64 0, .int .i64 0]) m k zeroValue120 rfl rfl rfl rfl rfl fun b99 w101 a k m e hb100 => s_stb (cs' := [.int .i64 x97.fId, .int .i64 x97.fW, .int .i64 x97.fH, .int .i64 x97.fD, .int .i64 x97.fGram, .int .i64 x97.fClass, .int .i64 x97.fCount]) sizeOf120 m 0 hb100 0 k rfl rfl rfl rfl rfl rfl rfl rfl rfl rfl rfl fun w102 a k e m hb103 => nn (wp_seq (wr (sv k rfl (r_ldB ta120 m 0 hb103 0 k rfl rfl rfl rfl rfl rfl) fun a k => oE h fun x104 hx105 h => cE k m call204 rfl rfl rfl (c_impl_ItemOk fu (x97 : Item)  hx105) fun w107 e a k m => ?_))))))
         refine pN 1 k rfl fun a k => nn (cI h k rfl (fun hb108 h => ?_) fun hb108 h => ?_)
         · refine wr (pN 1 k rfl fun a k => nn (wp_ret (rt_then (rt_block (rt_then (rt_then (rt_block (rt_then ?_))))))))
           refine fS h k m rfl rfl
         refine wp_skip (nm_then ?_)
         refine wp_region_lit (pN 1 k rfl fun a k => sv k rfl (r_fa fa120_6 k rfl rfl) fun a k => sv k rfl (r_ldb t13 m 0 hb103 6 k rfl rfl rfl rfl rfl) fun a k => pN 2 k rfl fun a k => wpList_nil (nm_block (nm_then ?_)))
         refine wp_region_lit (pN 2 k rfl fun a k => nn ?_)
         exact ⟨w64 (units93 + x97.fCount), w64 (x94 + 1), k.keep [3, 54, 55, 56] rfl, m.sel [] rfl (by decide), h⟩
       refine wp_exit (ex_then (ex_then (ex_same (nm_then ?_))))
       refine wr (pN 3 k rfl fun a k => nn (wp_ret (fS h k m rfl rfl)))
     exact ⟨0, 0, k.keep [3, 54, 55, 56] rfl, m.sel [] rfl (by decide), h⟩
   refine wr (sv k rfl (r_fa fa40_4 k rfl rfl) fun a k => sv k rfl (r_ldb t137 m 0 hb15 7 k rfl rfl rfl rfl rfl) fun a k => sv k rfl (r_len (α := Typ) hf12 k underlying37 rfl rfl) fun a k => oE h fun x109 hx110 h => cE k m call99 rfl rfl rfl (c_impl_in fu _ _ _  hx110) fun w112 e a k m => pN 2 k rfl fun a k => bsplit (!x109) (fun hb113 => ?_) (fun hb113 => ?_))
   · have h := bif_t hb113 h
     refine rB k 36 rfl hb113 fun k => pN 16 k rfl fun a k => ?_
     have k := k.keep [1, 52] rfl
     refine nn (wp_cond_true (k.ev rfl) (wr (pN 1 k rfl fun a k => nn (wp_ret (rt_then ?_)))))
     refine fS h k m rfl rfl
   have h := bif_f hb113 h
   refine rB k 36 rfl hb113 fun k => sv k rfl (r_fa fa40_4 k rfl rfl) fun a k => sv k rfl (r_ldb t137 m 0 hb15 7 k rfl rfl rfl rfl rfl) fun a k => oE h fun x117 hx118 h => cE k m call184 rfl rfl rfl (c_slices_ContainsFunc_impl_Type_impl_Type fu _ _ (Enc.rd_agr hf12 (m.a00 (Enc.rd_lt hf12))) ⟨202, [], rfl, call202, fun w y114 v115 r e hv116 hx => by subst hv116; have m := m.step e; exact c_impl_BoundsOk_2 fu _  hx⟩ hx118) fun w120 e a k m => pN 2 k rfl fun a k => bsplit (x117) (fun hb121 => ?_) (fun hb121 => ?_)
   · have h := bif_t hb121 h
     refine rB k 41 rfl hb121 fun k => pN 11 k rfl fun a k => ?_
     have k := k.keep [1, 52] rfl
     refine nn (wp_cond_true (k.ev rfl) (wr (pN 1 k rfl fun a k => nn (wp_ret (rt_then ?_)))))
     refine fS h k m rfl rfl
   have h := bif_f hb121 h
   refine rB k 41 rfl hb121 fun k => sv k rfl (r_fa fa40_5 k rfl rfl) fun a k => sv k rfl (r_ldb t13 m 0 hb15 8 k rfl rfl rfl rfl rfl) fun a k => oE h fun x122 hx123 h => cE k m call99 rfl rfl rfl (c_impl_in fu _ _ _  hx123) fun w125 e a k m => pN 3 k rfl fun a k => bsplit (!x122) (fun hb126 => ?_) (fun hb126 => ?_)
   · have h := bif_t hb126 h
     refine rB k 47 rfl hb126 fun k => pN 5 k rfl fun a k => ?_
     have k := k.keep [1, 52] rfl
     refine nn (wp_cond_true (k.ev rfl) (wr (pN 1 k rfl fun a k => nn (wp_ret (rt_then ?_)))))
     refine fS h k m rfl rfl
   have h := bif_f hb126 h
   refine rB k 47 rfl hb126 fun k => sv k rfl (r_fa fa40_6 k rfl rfl) fun a k => sv k rfl (r_ldb t138 m 0 hb15 9 k rfl rfl rfl rfl rfl) fun a k => sv k rfl (r_len (α := Item) hf13 k underlying38 rfl rfl) fun a k => pN 2 k rfl fun a k => ?_
   have k := k.keep [1, 52] rfl
   refine nn (cI h k rfl (fun hb127 h => ?_) fun hb127 h => ?_)
   · refine wr (pN 1 k rfl fun a k => nn (wp_ret (rt_then ?_)))
     refine fS h k m rfl rfl
   refine wp_skip (nm_then ?_)
   exact ⟨k.keep [1] rfl, m.sel [0] rfl (by decide), h⟩
 refine wr (sv k rfl (r_fa fa40_0 k rfl rfl) fun a k => sv k rfl (r_ldb t13 m 0 hb15 0 k rfl rfl rfl rfl rfl) fun a k => oE h fun x128 hx129 h => cE k m call99 rfl rfl rfl (c_impl_in fu _ _ _  hx129) fun w131 e a k m => pN 2 k rfl fun a k => bsplit (!x128) (fun hb132 => ?_) (fun hb132 => ?_))
 · have h := bif_t hb132 h
   refine rB k 10 rfl hb132 fun k => pN 17 k rfl fun a k => nn (wp_cond_true (k.ev rfl) (wr (pN 1 k rfl fun a k => ?_)))
   have k := k.keep [2] rfl
   refine nn (wp_ret (rt_then ?_))
   refine fS h k m rfl rfl
 have h := bif_f hb132 h
 refine rB k 10 rfl hb132 fun k => sv k rfl (r_fa fa40_1 k rfl rfl) fun a k => sv k rfl (r_ldB ta35 m 0 hb15 1 k rfl rfl rfl rfl rfl rfl) fun a k => oE h fun x133 hx134 h => cE k m call199 rfl rfl rfl (c_impl_PalletOk fu (r1.fPallet : Pallet)  hx134) fun w136 e a k m => pN 3 k rfl fun a k => bsplit (!x133) (fun hb137 => ?_) (fun hb137 => ?_)
 · have h := bif_t hb137 h
   refine rB k 16 rfl hb137 fun k => pN 11 k rfl fun a k => nn (wp_cond_true (k.ev rfl) (wr (pN 1 k rfl fun a k => ?_)))
   have k := k.keep [2] rfl
   refine nn (wp_ret (rt_then ?_))
   refine fS h k m rfl rfl
 have h := bif_f hb137 h
 refine rB k 16 rfl hb137 fun k => sv k rfl (r_fa fa40_2 k rfl rfl) fun a k => sv k rfl (r_ldb t13 m 0 hb15 5 k rfl rfl rfl rfl rfl) fun a k => oE h fun x138 hx139 h => cE k m call99 rfl rfl rfl (c_impl_in fu _ _ _  hx139) fun w141 e a k m => pN 3 k rfl fun a k => bsplit (!x138) (fun hb142 => ?_) (fun hb142 => ?_)
 · have h := bif_t hb142 h
   refine rB k 22 rfl hb142 fun k => pN 5 k rfl fun a k => nn (wp_cond_true (k.ev rfl) (wr (pN 1 k rfl fun a k => ?_)))
   have k := k.keep [2] rfl
   refine nn (wp_ret (rt_then ?_))
   refine fS h k m rfl rfl
 have h := bif_f hb142 h
 refine rB k 22 rfl hb142 fun k => sv k rfl (r_fa fa40_3 k rfl rfl) fun a k => sv k rfl (r_ldb t136 m 0 hb15 6 k rfl rfl rfl rfl rfl) fun a k => sv k rfl (r_len (α := Pair) hf11 k underlying36 rfl rfl) fun a k => pN 2 k rfl fun a k => nn (cI h k rfl (fun hb143 h => ?_) fun hb143 h => ?_)
 · refine wr (pN 1 k rfl fun a k => ?_)
   have k := k.keep [2] rfl
   refine nn (wp_ret (rt_then ?_))
   refine fS h k m rfl rfl
 refine wp_skip (nm_then ?_)
 exact ⟨k.keep [1] rfl, m.sel [0] rfl (by decide), h⟩
theorem c_impl_namesOk_1 (fu : Nat) {w0 : World} (q1 : Typ) (x2 : Typ) {b3 : Nat} (hp4 : bx w0 b3 [.int .i64 x2.fId, .int .i64 x2.fW, .int .i64 x2.fH, .int .i64 x2.fD, .int .i64 x2.fTare, .int .i64 x2.fGram, .int .i64 x2.fCost] 92) {r : Bool}
    (h : d_impl_namesOk_1 fu q1 x2 = some r) :
    Calls Tryz.prog 205 #[.agg (Flat.e (q1)).toArray, .pointer (some (⟨b3, 0, none⟩ : Addr))] w0 fun e w => e = .returned (.bool (r)) ∧ Ext [] w0 w := by
 refine enter (vs := [_, _]) func205 rfl ntmps205 rfl fun a k => ?_
 have m := St.start w0
 unfold d_impl_namesOk_1 at h
 refine wr (s_box (cs := [.int .i64 q1.fId, .int .i64 q1.fW, .int .i64 q1.fH, .int .i64 q1.fD, .int .i64 q1.fTare, .int .i64 q1.fGram, .int .i64 q1.fCost]) m k rfl rfl rfl rfl rfl rfl fun b5 w7 a k m e hb6 => pN 1 k rfl fun a k => nn (wr (sv k rfl (r_fa fa92_0 k rfl rfl) fun a k => sv k rfl (r_ldb t13 m 0 hb6 0 k rfl rfl rfl rfl rfl) fun a k => sv k rfl (r_fa fa92_0 k rfl rfl) fun a k => sv k rfl (r_ld1 t13 (r := []) (hp4.at (m.a00 hp4.lt1) 0 1 rfl rfl rfl) k rfl rfl) fun a k => pN 2 k rfl fun a k => nn (wp_ret (fS h k m rfl rfl)))))
theorem c_impl_namesOk_2 (fu : Nat) {w0 : World} (q1 : Item) (x2 : Item) {b3 : Nat} (hp4 : bx w0 b3 [.int .i64 x2.fId, .int .i64 x2.fW, .int .i64 x2.fH, .int .i64 x2.fD, .int .i64 x2.fGram, .int .i64 x2.fClass, .int .i64 x2.fCount] 120) {r : Bool}
    (h : d_impl_namesOk_2 fu q1 x2 = some r) :
    Calls Tryz.prog 206 #[.agg (Flat.e (q1)).toArray, .pointer (some (⟨b3, 0, none⟩ : Addr))] w0 fun e w => e = .returned (.bool (r)) ∧ Ext [] w0 w := by
 refine enter (vs := [_, _]) func206 rfl ntmps206 rfl fun a k => ?_
 have m := St.start w0
 unfold d_impl_namesOk_2 at h
 refine wr (s_box (cs := [.int .i64 q1.fId, .int .i64 q1.fW, .int .i64 q1.fH, .int .i64 q1.fD, .int .i64 q1.fGram, .int .i64 q1.fClass, .int .i64 q1.fCount]) m k rfl rfl rfl rfl rfl rfl fun b5 w7 a k m e hb6 => pN 1 k rfl fun a k => nn (wr (sv k rfl (r_fa fa120_0 k rfl rfl) fun a k => sv k rfl (r_ldb t13 m 0 hb6 0 k rfl rfl rfl rfl rfl) fun a k => sv k rfl (r_fa fa120_0 k rfl rfl) fun a k => sv k rfl (r_ld1 t13 (r := []) (hp4.at (m.a00 hp4.lt1) 0 1 rfl rfl rfl) k rfl rfl) fun a k => pN 2 k rfl fun a k => nn (wp_ret (fS h k m rfl rfl)))))
theorem c_slices_IndexFunc_impl_Item_impl_Item (fu : Nat) {w0 : World} (sv1 : List Item) (f5 : Item → Option Bool) {v2 : Value} {F3 : List Nat} (hp4 : rd w0 F3 [v2] sv1) {v6 : Value} (hp7 : FnOk1 Tryz.prog w0 v6 f5) {r : Int}
    (h : d_slices_IndexFunc_impl_Item_impl_Item fu sv1 f5 = some r) :
    Calls Tryz.prog 190 #[v2, v6] w0 fun e w => e = .returned (.int .i64 r) ∧ Ext [] w0 w := by
 refine enter (vs := [_, _]) func190 rfl ntmps190 rfl fun a k => ?_
 have m := St.start w0
 obtain ⟨fid8, cap9, rfl, hcl10, hcc11⟩ := hp7
 unfold d_slices_IndexFunc_impl_Item_impl_Item at h
 refine wr (pN 1 k rfl fun a k => nn (wp_seq (wr (pN 1 k rfl fun a k => sv k rfl (r_len (α := Item) hp4 k underlying38 rfl rfl) fun a k => pN 1 k rfl fun a k => nn (wp_block (c_loop (fun n a w => ∃ (x32 : Int), K 19 [(0, v2), (1, (.func (.func fid8) #[] cap9.toArray)), (7, .int .i64 ((sv1.length : Int))), (8, .int .i64 x32)] a ∧ St [] w0 w [] ∧ d_slices_IndexFunc_impl_Item_impl_Item_L1 fu sv1 f5 n x32 = some r) ?_ ?_ fu _ _ ?_))))))
 · rintro a w ⟨_, _, _, h⟩
   exact nS h
 · rintro m33 a w31 ⟨x32, k, m, h⟩
   rw [d_slices_IndexFunc_impl_Item_impl_Item_L1_s] at h
   unfold d_slices_IndexFunc_impl_Item_impl_Item_L1_B at h
   refine wr (pN 1 k rfl fun a k => nn (wp_seq (cI h k rfl (fun hb34 h => ?_) fun hb34 h => ?_)))
   · refine wp_skip (nm_then ?_)
     refine wp_seq (wp_block (wr (pN 2 k rfl fun a k => nn (wr (pN 3 k rfl fun a k => oE h fun x35 hx36 h => sv k rfl (r_ixa hp4 hx36 k ts38 rfl rfl rfl) fun a k => sv k rfl (r_lde hp4 (m.a00 (Enc.rd_lt hp4)) hx36 ta120 k rfl rfl) fun a k => oE h fun x37 hx38 h => s_callv k hcl10 rfl rfl rfl rfl rfl rfl (hcc11 _ _ _ _ m.ext rfl hx38) fun e39 w40 hR => ?_)))))
     obtain ⟨rfl, e⟩ := hR
     refine ⟨_, rfl, fun a k => ?_⟩
     have m := m.step e
     refine nn (cI h k rfl (fun hb41 h => ?_) fun hb41 h => ?_)
     · refine wr (pN 2 k rfl fun a k => nn (wp_ret (rt_block (rt_then (rt_then (rt_block (rt_then ?_)))))))
       refine fS h k m rfl rfl
     refine wp_skip (nm_block (nm_then ?_))
     refine wp_region_lit (pN 2 k rfl fun a k => nn ?_)
     exact ⟨w64 (x32 + 1), k.keep [0, 1, 7, 8] rfl, m.sel [] rfl (by decide), h⟩
   refine wp_exit (ex_then (ex_then (ex_same (nm_then ?_))))
   refine wr (pN 1 k rfl fun a k => nn (wp_ret (fS h k m rfl rfl)))
 exact ⟨0, k.keep [0, 1, 7, 8] rfl, m.sel [] rfl (by decide), h⟩
theorem c_slices_ContainsFunc_impl_Item_impl_Item (fu : Nat) {w0 : World} (sv1 : List Item) (f5 : Item → Option Bool) {v2 : Value} {F3 : List Nat} (hp4 : rd w0 F3 [v2] sv1) {v6 : Value} (hp7 : FnOk1 Tryz.prog w0 v6 f5) {r : Bool}
    (h : d_slices_ContainsFunc_impl_Item_impl_Item fu sv1 f5 = some r) :
    Calls Tryz.prog 151 #[v2, v6] w0 fun e w => e = .returned (.bool (r)) ∧ Ext [] w0 w := by
 refine enter (vs := [_, _]) func151 rfl ntmps151 rfl fun a k => ?_
 have m := St.start w0
 obtain ⟨fid8, cap9, rfl, hcl10, hcc11⟩ := hp7
 unfold d_slices_ContainsFunc_impl_Item_impl_Item at h
 refine wr (pN 1 k rfl fun a k => nn (wr (pN 2 k rfl fun a k => oE h fun x14 hx15 h => cE k m call190 rfl rfl rfl (c_slices_IndexFunc_impl_Item_impl_Item fu _ _ (Enc.rd_agr hp4 (m.a00 (Enc.rd_lt hp4))) ⟨_, _, rfl, hcl10, fun w y12 v13 r e => hcc11 w y12 v13 r (m.ext.trans e (by simp))⟩ hx15) fun w17 e a k m => pN 2 k rfl fun a k => nn (wp_ret (fS h k m rfl rfl)))))
theorem c_impl_namesOk_3 (fu : Nat) {w0 : World} (p1 : Pair) (x2 : Request) {v5 : Value} {F6 : List Nat} {v8 : Value} {F9 : List Nat} {v11 : Value} {F12 : List Nat} {b3 : Nat} (hp4 : bx w0 b3 [.int .i64 x2.fWay, .int .i64 x2.fPallet.fW, .int .i64 x2.fPallet.fD, .int .i64 x2.fPallet.fH, .int .i64 x2.fPallet.fGram, .int .i64 x2.fClasses, v5, v8, .int .i64 x2.fMaster, v11] 40) (hp7 : rd w0 F6 [v5] x2.fPairs) (hp10 : rd w0 F9 [v8] x2.fTypes) (hp13 : rd w0 F12 [v11] x2.fItems) {r : Bool}
    (h : d_impl_namesOk_3 fu p1 x2 = some r) :
    Calls Tryz.prog 207 #[.agg (Flat.e (p1)).toArray, .pointer (some (⟨b3, 0, none⟩ : Addr))] w0 fun e w => e = .returned (.bool (r)) ∧ Ext [] w0 w := by
 refine enter (vs := [_, _]) func207 rfl ntmps207 rfl fun a k => ?_
 have m := St.start w0
 unfold d_impl_namesOk_3 at h
 refine wr (s_box (cs := [.int .i64 p1.fA, .int .i64 p1.fB]) m k rfl rfl rfl rfl rfl rfl fun b14 w16 a k m e hb15 => pN 1 k rfl fun a k => nn (wr (sv k rfl (r_fa fa144_0 k rfl rfl) fun a k => sv k rfl (r_ldb t13 m 0 hb15 0 k rfl rfl rfl rfl rfl) fun a k => sv k rfl (r_fa fa40_2 k rfl rfl) fun a k => sv k rfl (r_ld1 t13 (r := []) (hp4.at (m.a00 hp4.lt1) 5 1 rfl rfl rfl) k rfl rfl) fun a k => pN 2 k rfl fun a k => bsplit (decide (p1.fA ≥ x2.fClasses)) (fun hb17 => ?_) (fun hb17 => ?_))))
 · have h := bif_t hb17 h
   refine rB k 9 rfl hb17 fun k => pN 7 k rfl fun a k => nn (wp_ret (fS h k m rfl rfl))
 have h := bif_f hb17 h
 refine rB k 9 rfl hb17 fun k => sv k rfl (r_fa fa144_1 k rfl rfl) fun a k => sv k rfl (r_ldb t13 m 0 hb15 1 k rfl rfl rfl rfl rfl) fun a k => sv k rfl (r_fa fa40_2 k rfl rfl) fun a k => sv k rfl (r_ld1 t13 (r := []) (hp4.at (m.a00 hp4.lt1) 5 1 rfl rfl rfl) k rfl rfl) fun a k => pN 3 k rfl fun a k => nn (wp_ret (fS h k m rfl rfl))
theorem c_impl_namesOk (fu : Nat) {w0 : World} (r1 : Request) {cs2 : List Value} {F3 : List Nat} (hp4 : rd w0 F3 cs2 r1) {r : Bool}
    (h : d_impl_namesOk fu r1 = some r) :
    Calls Tryz.prog 180 #[.agg cs2.toArray] w0 fun e w => e = .returned (.bool (r)) ∧ Ext [] w0 w := by
 refine enter (vs := [_]) func180 rfl ntmps180 rfl fun a k => ?_
 have m := St.start w0
 obtain ⟨v5, F6, v7, F8, v9, F10, rfl, rfl, hf11, hf12, hf13⟩ := hp4
 unfold d_impl_namesOk at h
 refine wr (s_box (cs := [.int .i64 r1.fWay, .int .i64 r1.fPallet.fW, .int .i64 r1.fPallet.fD, .int .i64 r1.fPallet.fH, .int .i64 r1.fPallet.fGram, .int .i64 r1.fClasses, v5, v7, .int .i64 r1.fMaster, v9]) m k rfl rfl rfl rfl rfl rfl fun b14 w16 a k m e hb15 => pN 1 k rfl fun a k => nn (wp_seq (wr (sv k rfl (r_fa fa40_4 k rfl rfl) fun a k => sv k rfl (r_ldb t137 m 0 hb15 7 k rfl rfl rfl rfl rfl) fun a k => sv k rfl (r_len (α := Typ) hf12 k underlying37 rfl rfl) fun a k => pN 1 k rfl fun a k => nn (wp_block (c_loop (fun n a w => ∃ (x63 : Int), K 59 [(1, .pointer (some (⟨b14, 0, none⟩ : Addr))), (10, v7), (11, .int .i64 ((r1.fTypes.length : Int))), (12, .int .i64 x63)] a ∧ St [] w0 w [([b14], w16)] ∧ d_impl_namesOk_L2 fu r1 n x63 = some r) ?_ ?_ fu _ _ ?_))))))
 · rintro a w ⟨_, _, _, h⟩
   exact nS h
 · rintro m64 a w62 ⟨x63, k, m, h⟩
   rw [d_impl_namesOk_L2_s] at h
   unfold d_impl_namesOk_L2_B at h
   refine wr (pN 1 k rfl fun a k => nn (wp_seq (cI h k rfl (fun hb65 h => ?_) fun hb65 h => ?_)))
   · refine wp_skip (nm_then ?_)
     refine wp_seq (wp_block (wr (pN 1 k rfl fun a k => oE h fun x66 hx67 h => sv k rfl (r_ixa hf12 hx67 k ts37 rfl rfl rfl) fun a k => sv k rfl (r_lde hf12 (m.a00 (Enc.rd_lt hf12)) hx67 ta92 k rfl rfl) fun a k => s_alloc (cs := [.int .i64 0, .int .i64 0, .int .i64 0, .int .i64 0, .int .i64 0, .int .i64 0, .int .i64 0]) m k zeroValue92 rfl rfl rfl rfl rfl fun b68 w70 a k m e hb69 => pN 1 k rfl fun a k => s_stb (cs' := [.int .i64 x66.fId, .int .i64 x66.fW, .int .i64 x66.fH, .int .i64 x66.fD, .int .i64 x66.fTare, .int .i64 x66.fGram, .int .i64 x66.fCost]) sizeOf92 m 0 hb69 0 k rfl rfl rfl rfl rfl rfl rfl rfl rfl rfl rfl fun w71 a k e m hb72 => nn (wr (sv k rfl (r_fa fa40_4 k rfl rfl) fun a k => sv k rfl (r_ldb t137 m 1 hb15 7 k rfl rfl rfl rfl rfl) fun a k => pN 1 k rfl fun a k => oE h fun x73 hx74 h => ?_)))))
     refine s_slTo hf12 hx74 k ts37 rfl rfl rfl rfl rfl rfl fun v75 a k hf76 => pN 1 k rfl fun a k => oE h fun x81 hx82 h => cE k m call184 rfl rfl rfl (c_slices_ContainsFunc_impl_Type_impl_Type fu _ _ (Enc.rd_agr hf76 (m.a00 (Enc.rd_lt hf76))) ⟨205, [.pointer (some (⟨b68, 0, none⟩ : Addr))], rfl, call205, fun w y78 v79 r e hv80 hx => by subst hv80; have m := m.step e; exact c_impl_namesOk_1 fu _ _ (hb72.agr (m.a 0 rfl) (by simp)) hx⟩ hx82) fun w84 e a k m => nn (cI h k rfl (fun hb85 h => ?_) fun hb85 h => ?_)
     · refine wr (pN 1 k rfl fun a k => nn (wp_ret (rt_block (rt_then (rt_then (rt_block (rt_then ?_)))))))
       refine fS h k m rfl rfl
     refine wp_skip (nm_block (nm_then ?_))
     refine wp_region_lit (pN 2 k rfl fun a k => nn ?_)
     exact ⟨w64 (x63 + 1), k.keep [1, 10, 11, 12] rfl, m.sel [1] rfl (by decide), h⟩
   refine wp_exit (ex_then (ex_then (ex_same (nm_then ?_))))
   refine wp_seq (wr (sv k rfl (r_fa fa40_6 k rfl rfl) fun a k => sv k rfl (r_ldb t138 m 0 hb15 9 k rfl rfl rfl rfl rfl) fun a k => sv k rfl (r_len (α := Item) hf13 k underlying38 rfl rfl) fun a k => pN 1 k rfl fun a k => nn (wp_block (c_loop (fun n a w => ∃ (x178 : Int), K 59 [(1, .pointer (some (⟨b14, 0, none⟩ : Addr))), (25, v9), (26, .int .i64 ((r1.fItems.length : Int))), (27, .int .i64 x178)] a ∧ St [] w0 w [([b14], w16)] ∧ d_impl_namesOk_L1 fu r1 n x178 = some r) ?_ ?_ fu _ _ ?_))))
   · rintro a w ⟨_, _, _, h⟩
     exact nS h
   · rintro m179 a w177 ⟨x178, k, m, h⟩
     rw [d_impl_namesOk_L1_s] at h
     unfold d_impl_namesOk_L1_B at h
     refine wr (pN 1 k rfl fun a k => nn (wp_seq (cI h k rfl (fun hb180 h => ?_) fun hb180 h => ?_)))
     · refine wp_skip (nm_then ?_)
       refine c_cut (fun a w => K 59 [(1, .pointer (some (⟨b14, 0, none⟩ : Addr))), (25, v9), (26, .int .i64 ((r1.fItems.length : Int))), (27, .int .i64 x178)] a ∧ St [] w0 w [([b14], w16)] ∧ d_impl_namesOk_J1 fu (d_impl_namesOk_L1 fu r1 m179) x178 = some r) ?_ ?_
       · rintro a w202 ⟨k, m, h⟩
         unfold d_impl_namesOk_J1 at h
         refine wp_region_lit (pN 2 k rfl fun a k => nn ?_)
         exact ⟨w64 (x178 + 1), k.keep [1, 25, 26, 27] rfl, m.sel [0] rfl (by decide), h⟩
       refine wp_block (wr (pN 1 k rfl fun a k => oE h fun x203 hx204 h => sv k rfl (r_ixa hf13 hx204 k ts38 rfl rfl rfl) fun a k => sv k rfl (r_lde hf13 (m.a00 (Enc.rd_lt hf13)) hx204 ta120 k rfl rfl) fun a k => s_alloc (cs := [.int .i64 0, .int .i64 0, .int .i64 0, .int .i64 0, .int .i64 0, .int .i64 0, .int .i64 0]) m k zeroValue120 rfl rfl rfl rfl rfl fun b205 w207 a k m e hb206 => pN 1 k rfl fun a k => s_stb (cs' := [.int .i64 x203.fId, .int .i64 x203.fW, .int .i64 x203.fH, .int .i64 x203.fD, .int .i64 x203.fGram, .int .i64 x203.fClass, .int .i64 x203.fCount]) sizeOf120 m 0 hb206 0 k rfl rfl rfl rfl rfl rfl rfl rfl rfl rfl rfl fun w208 a k e m hb209 => nn (wr (sv k rfl (r_fa fa120_5 k rfl rfl) fun a k => sv k rfl (r_ldb t13 m 0 hb209 5 k rfl rfl rfl rfl rfl) fun a k => ?_))))
       refine sv k rfl (r_fa fa40_2 k rfl rfl) fun a k => sv k rfl (r_ldb t13 m 1 hb15 5 k rfl rfl rfl rfl rfl) fun a k => pN 2 k rfl fun a k => bsplit (decide (x203.fClass ≥ r1.fClasses)) (fun hb210 => ?_) (fun hb210 => ?_)
       · have h := bif_t hb210 h
         refine rB k 37 rfl hb210 fun k => pN 7 k rfl fun a k => nn (wp_cond_true (k.ev rfl) (wr (pN 1 k rfl fun a k => nn (wp_ret (rt_block (rt_then (rt_then (rt_block (rt_then ?_)))))))))
         refine fS h k m rfl rfl
       have h := bif_f hb210 h
       refine rB k 37 rfl hb210 fun k => sv k rfl (r_fa fa40_6 k rfl rfl) fun a k => sv k rfl (r_ldb t138 m 1 hb15 9 k rfl rfl rfl rfl rfl) fun a k => pN 1 k rfl fun a k => oE h fun x211 hx212 h => s_slTo hf13 hx212 k ts38 rfl rfl rfl rfl rfl rfl fun v213 a k hf214 => pN 1 k rfl fun a k => oE h fun x219 hx220 h => cE k m call151 rfl rfl rfl (c_slices_ContainsFunc_impl_Item_impl_Item fu _ _ (Enc.rd_agr hf214 (m.a00 (Enc.rd_lt hf214))) ⟨206, [.pointer (some (⟨b205, 0, none⟩ : Addr))], rfl, call206, fun w y216 v217 r e hv218 hx => by subst hv218; have m := m.step e; exact c_impl_namesOk_2 fu _ _ (hb209.agr (m.a 0 rfl) (by simp)) hx⟩ hx220) fun w222 e a k m => pN 1 k rfl fun a k => nn (cI h k rfl (fun hb223 h => ?_) fun hb223 h => ?_)
       · refine wr (pN 1 k rfl fun a k => nn (wp_ret (rt_block (rt_then (rt_then (rt_block (rt_then ?_)))))))
         refine fS h k m rfl rfl
       refine wp_skip (nm_block (nm_then ?_))
       exact ⟨k.keep [1, 25, 26, 27] rfl, m.sel [1] rfl (by decide), h⟩
     refine wp_exit (ex_then (ex_then (ex_same (nm_then ?_))))
     refine wr (sv k rfl (r_ldB ta40 m 0 hb15 0 k rfl rfl rfl rfl rfl rfl) fun a k => oE h fun x224 hx225 h => cE k m call148 rfl rfl rfl (c_impl_MasterOf fu _ (show rd _ _ [.int .i64 r1.fWay, .int .i64 r1.fPallet.fW, .int .i64 r1.fPallet.fD, .int .i64 r1.fPallet.fH, .int .i64 r1.fPallet.fGram, .int .i64 r1.fClasses, v5, v7, .int .i64 r1.fMaster, v9] (r1 : Request) from ⟨_, _, _, _, _, _, rfl, rfl, (Enc.rd_agr hf11 (m.a00 (Enc.rd_lt hf11))), (Enc.rd_agr hf12 (m.a00 (Enc.rd_lt hf12))), (Enc.rd_agr hf13 (m.a00 (Enc.rd_lt hf13)))⟩) hx225) fun w227 e a k m => pN 3 k rfl fun a k => s_alloc (cs := [.int .i64 0, .int .i64 0, .int .i64 0, .int .i64 0, .int .i64 0, .int .i64 0, .int .i64 0]) m k zeroValue92 rfl rfl rfl rfl rfl fun b228 w230 a k m e hb229 => ?_)
     refine s_stb (cs' := [.int .i64 x224.1.fId, .int .i64 x224.1.fW, .int .i64 x224.1.fH, .int .i64 x224.1.fD, .int .i64 x224.1.fTare, .int .i64 x224.1.fGram, .int .i64 x224.1.fCost]) sizeOf92 m 0 hb229 0 k rfl rfl rfl rfl rfl rfl rfl rfl rfl rfl rfl fun w231 a k e m hb232 => pN 1 k rfl fun a k => nn (wr (pN 2 k rfl fun a k => bsplit (x224.2) (fun hb233 => ?_) (fun hb233 => ?_)))
     · have h := bif_t hb233 h
       refine rB k 52 rfl hb233 fun k => sv k rfl (r_fa fa40_3 k rfl rfl) fun a k => sv k rfl (r_ldb t136 m 1 hb15 6 k rfl rfl rfl rfl rfl) fun a k => pN 1 k rfl fun a k => oE h fun x237 hx238 h => cE k m call200 rfl rfl rfl (c_slices_ContainsFunc_impl_Pair_impl_Pair fu _ _ (Enc.rd_agr hf11 (m.a00 (Enc.rd_lt hf11))) ⟨207, [.pointer (some (⟨b14, 0, none⟩ : Addr))], rfl, call207, fun w y234 v235 r e hv236 hx => by subst hv236; have m := m.step e; exact c_impl_namesOk_3 fu _ _ (hb15.agr (m.a 1 rfl) (by simp)) (Enc.rd_agr hf11 (m.a00 (Enc.rd_lt hf11))) (Enc.rd_agr hf12 (m.a00 (Enc.rd_lt hf12))) (Enc.rd_agr hf13 (m.a00 (Enc.rd_lt hf13))) hx⟩ hx238) fun w240 e a k m => pN 3 k rfl fun a k => nn (wp_ret (fS h k m rfl rfl))
     have h := bif_f hb233 h
     refine rB k 52 rfl hb233 fun k => pN 7 k rfl fun a k => nn (wp_ret (fS h k m rfl rfl))
   exact ⟨0, k.keep [1, 25, 26, 27] rfl, m.sel [0] rfl (by decide), h⟩
 exact ⟨0, k.keep [1, 10, 11, 12] rfl, m.sel [0] rfl (by decide), h⟩

end Go.Proofs.YthjbcfefkdbgoaaGreat
