/- FnExactLost: the walks of functions that the law reaches, part 3. Printed by gen.py. -/
import Derived.Test.YthjbcfefkdbgoaaGreatExactLostW2
set_option maxRecDepth 20000
set_option linter.unusedSimpArgs false
set_option linter.unusedVariables false
namespace Go.Proofs.YthjbcfefkdbgoaaGreat
open Go Go.RowKit
open Enc (rd ow)
open Arg (argv)
open Ret (retv)
open Go.Proofs.Tryz

theorem t163 : T1 Tryz.prog 63 := ⟨fun w => by simp [isAgg, run_underlying underlying63], sizeOf63⟩
theorem seq144 : SEq Tryz.prog 144 Pair := seqPair underlying144 Tryz.stoodInHeld144 Tryz.eqGuardType144 underlying3 rfl
theorem bt144 : BT Tryz.prog 144 [.int .i64 0, .int .i64 0] #[(0, 1), (1, 1)] := ⟨zeroValue144, _, underlying144, fun w => by simp [sizeOf3]⟩

def d_spec_Units (fu : Nat) (r1 : Request) : Option ((List Int)) :=
  obind (d_spec_Class fu r1) fun x17 => bif (x17 != 0) then some (([] : List Int)) else obind (d_spec_l6Units fu r1) fun x27 => some (x27)

def d_spec_l15Flat_L1_B (fu : Nat)  (x1 : Plan) (k1 : List Int → Int → Option ((List Int))) (out62 : List Int) (i67 : Int) : Option ((List Int)) :=
  bif (decide (i67 < ((x1.fCartons.length : Int)))) then obind (ix x1.fCartons i67) fun x70 => obind (apnd 8 out62 x70.fUnits) fun x80 => k1 x80 (w64 (i67 + 1)) else some (out62)
def d_spec_l15Flat_L1 (fu : Nat)  (x1 : Plan) : Nat → List Int → Int → Option ((List Int))
  | 0 => fun _ _ => none
  | n + 1 => d_spec_l15Flat_L1_B fu x1 (d_spec_l15Flat_L1 fu x1 n)
theorem d_spec_l15Flat_L1_s (fu : Nat)  (x1 : Plan) (n : Nat) : d_spec_l15Flat_L1 fu x1 (n + 1) = d_spec_l15Flat_L1_B fu x1 (d_spec_l15Flat_L1 fu x1 n) := rfl

def d_spec_l15Flat (fu : Nat) (x1 : Plan) : Option ((List Int)) :=
  d_spec_l15Flat_L1 fu x1 fu (([] : List Int)) 0

def d_spec_l1Bit (fu : Nat) (on1 : Bool) : Option (Int) :=
  bif on1 then some (1) else some (0)

def d_spec_l8Times_L1_B (fu : Nat)  (list1 : List Int) (x5 : Int) (k1 : Int → Int → Option (Int)) (n25 : Int) (i26 : Int) : Option (Int) :=
  bif (decide (i26 < ((list1.length : Int)))) then obind (ix list1 i26) fun x29 => obind (d_spec_l1Bit fu (x29 == x5)) fun x31 => k1 (w64 (n25 + x31)) (w64 (i26 + 1)) else some (n25)
def d_spec_l8Times_L1 (fu : Nat)  (list1 : List Int) (x5 : Int) : Nat → Int → Int → Option (Int)
  | 0 => fun _ _ => none
  | n + 1 => d_spec_l8Times_L1_B fu list1 x5 (d_spec_l8Times_L1 fu list1 x5 n)
theorem d_spec_l8Times_L1_s (fu : Nat)  (list1 : List Int) (x5 : Int) (n : Nat) : d_spec_l8Times_L1 fu list1 x5 (n + 1) = d_spec_l8Times_L1_B fu list1 x5 (d_spec_l8Times_L1 fu list1 x5 n) := rfl

def d_spec_l8Times (fu : Nat) (list1 : List Int) (x5 : Int) : Option (Int) :=
  d_spec_l8Times_L1 fu list1 x5 fu 0 0

def d_spec_Lost_J1 (fu : Nat) (k3 : List Int → Int → Option ((List Int))) (u145 : Int) (out165 : List Int) : Option ((List Int)) :=
  k3 out165 (w64 (u145 + 1))

def d_spec_Lost_L1_B (fu : Nat)  (x35 : (List Int)) (x44 : (List Int)) (k3 : List Int → Int → Option ((List Int))) (out140 : List Int) (u145 : Int) : Option ((List Int)) :=
  bif (decide (u145 < ((x35.length : Int)))) then obind (d_spec_l8Times fu x44 u145) fun x170 => bif (x170 == 0) then obind (apnd 8 out140 (([u145] : List Int))) fun x180 => d_spec_Lost_J1 fu k3 u145 x180 else d_spec_Lost_J1 fu k3 u145 out140 else some (out140)
def d_spec_Lost_L1 (fu : Nat)  (x35 : (List Int)) (x44 : (List Int)) : Nat → List Int → Int → Option ((List Int))
  | 0 => fun _ _ => none
  | n + 1 => d_spec_Lost_L1_B fu x35 x44 (d_spec_Lost_L1 fu x35 x44 n)
theorem d_spec_Lost_L1_s (fu : Nat)  (x35 : (List Int)) (x44 : (List Int)) (n : Nat) : d_spec_Lost_L1 fu x35 x44 (n + 1) = d_spec_Lost_L1_B fu x35 x44 (d_spec_Lost_L1 fu x35 x44 n) := rfl

def d_spec_Lost (fu : Nat) (r1 : Request) (x5 : Plan) : Option ((List Int)) :=
  obind (d_spec_Units fu r1) fun x35 => obind (d_spec_l15Flat fu x5) fun x44 => d_spec_Lost_L1 fu x35 x44 fu (([] : List Int)) 0

def d_impl_allUnits_L1_B (fu : Nat)  (x1 : Plan) (k1 : List Int → Int → Option ((List Int))) (out72 : List Int) (x77 : Int) : Option ((List Int)) :=
  bif (decide (x77 < ((x1.fCartons.length : Int)))) then obind (ix x1.fCartons x77) fun x80 => obind (apnd 8 out72 x80.fUnits) fun x95 => k1 x95 (w64 (x77 + 1)) else some (out72)
def d_impl_allUnits_L1 (fu : Nat)  (x1 : Plan) : Nat → List Int → Int → Option ((List Int))
  | 0 => fun _ _ => none
  | n + 1 => d_impl_allUnits_L1_B fu x1 (d_impl_allUnits_L1 fu x1 n)
theorem d_impl_allUnits_L1_s (fu : Nat)  (x1 : Plan) (n : Nat) : d_impl_allUnits_L1 fu x1 (n + 1) = d_impl_allUnits_L1_B fu x1 (d_impl_allUnits_L1 fu x1 n) := rfl

def d_impl_allUnits (fu : Nat) (x1 : Plan) : Option ((List Int)) :=
  d_impl_allUnits_L1 fu x1 fu (([] : List Int)) 0

def d_impl_TypeById_1 (fu : Nat) (t1 : Typ) (x2 : Int) : Option (Bool) :=
  some (t1.fId == x2)

def d_slices_IndexFunc_impl_Type_impl_Type_L1_B (fu : Nat)  (sv1 : List Typ) (f5 : Typ → Option Bool) (k1 : Int → Option (Int)) (x32 : Int) : Option (Int) :=
  bif (decide (x32 < ((sv1.length : Int)))) then obind (ix sv1 x32) fun x35 => obind (f5 x35) fun x37 => bif x37 then some (x32) else k1 (w64 (x32 + 1)) else some ((-1))
def d_slices_IndexFunc_impl_Type_impl_Type_L1 (fu : Nat)  (sv1 : List Typ) (f5 : Typ → Option Bool) : Nat → Int → Option (Int)
  | 0 => fun _ => none
  | n + 1 => d_slices_IndexFunc_impl_Type_impl_Type_L1_B fu sv1 f5 (d_slices_IndexFunc_impl_Type_impl_Type_L1 fu sv1 f5 n)
theorem d_slices_IndexFunc_impl_Type_impl_Type_L1_s (fu : Nat)  (sv1 : List Typ) (f5 : Typ → Option Bool) (n : Nat) : d_slices_IndexFunc_impl_Type_impl_Type_L1 fu sv1 f5 (n + 1) = d_slices_IndexFunc_impl_Type_impl_Type_L1_B fu sv1 f5 (d_slices_IndexFunc_impl_Type_impl_Type_L1 fu sv1 f5 n) := rfl

def d_slices_IndexFunc_impl_Type_impl_Type (fu : Nat) (sv1 : List Typ) (f5 : Typ → Option Bool) : Option (Int) :=
  d_slices_IndexFunc_impl_Type_impl_Type_L1 fu sv1 f5 fu 0

def d_impl_TypeById (fu : Nat) (r1 : Request) (id5 : Int) : Option (Typ × Bool) :=
  obind (d_slices_IndexFunc_impl_Type_impl_Type fu r1.fTypes (fun y24 => d_impl_TypeById_1 fu y24 id5)) fun x27 => bif (decide (x27 < 0)) then some ((⟨0, 0, 0, 0, 0, 0, 0⟩ : Typ), false) else obind (ix r1.fTypes x27) fun x34 => some (x34, true)

def d_impl_MasterOf (fu : Nat) (r1 : Request) : Option (Typ × Bool) :=
  obind (d_impl_TypeById fu r1 r1.fMaster) fun x20 => some (x20.1, x20.2)

def d_impl_in (fu : Nat) (n1 : Int) (lo2 : Int) (hi3 : Int) : Option (Bool) :=
  bif (decide (n1 ≥ lo2)) then some (decide (n1 ≤ hi3)) else some (false)

def d_impl_isSide (fu : Nat) (n1 : Int) : Option (Bool) :=
  obind (d_impl_in fu n1 1 2000) fun x2 => some (x2)

def d_impl_PalletOk (fu : Nat) (x1 : Pallet) : Option (Bool) :=
  obind (d_impl_isSide fu x1.fW) fun x5 => bif x5 then obind (d_impl_isSide fu x1.fD) fun x10 => bif x10 then obind (d_impl_isSide fu x1.fH) fun x15 => bif x15 then obind (d_impl_in fu x1.fGram 1 100000) fun x20 => some (x20) else some (false) else some (false) else some (false)

def d_slices_IndexFunc_impl_Pair_impl_Pair_L1_B (fu : Nat)  (sv1 : List Pair) (f5 : Pair → Option Bool) (k1 : Int → Option (Int)) (x32 : Int) : Option (Int) :=
  bif (decide (x32 < ((sv1.length : Int)))) then obind (ix sv1 x32) fun x35 => obind (f5 x35) fun x37 => bif x37 then some (x32) else k1 (w64 (x32 + 1)) else some ((-1))
def d_slices_IndexFunc_impl_Pair_impl_Pair_L1 (fu : Nat)  (sv1 : List Pair) (f5 : Pair → Option Bool) : Nat → Int → Option (Int)
  | 0 => fun _ => none
  | n + 1 => d_slices_IndexFunc_impl_Pair_impl_Pair_L1_B fu sv1 f5 (d_slices_IndexFunc_impl_Pair_impl_Pair_L1 fu sv1 f5 n)
theorem d_slices_IndexFunc_impl_Pair_impl_Pair_L1_s (fu : Nat)  (sv1 : List Pair) (f5 : Pair → Option Bool) (n : Nat) : d_slices_IndexFunc_impl_Pair_impl_Pair_L1 fu sv1 f5 (n + 1) = d_slices_IndexFunc_impl_Pair_impl_Pair_L1_B fu sv1 f5 (d_slices_IndexFunc_impl_Pair_impl_Pair_L1 fu sv1 f5 n) := rfl

def d_slices_IndexFunc_impl_Pair_impl_Pair (fu : Nat) (sv1 : List Pair) (f5 : Pair → Option Bool) : Option (Int) :=
  d_slices_IndexFunc_impl_Pair_impl_Pair_L1 fu sv1 f5 fu 0

def d_slices_ContainsFunc_impl_Pair_impl_Pair (fu : Nat) (sv1 : List Pair) (f5 : Pair → Option Bool) : Option (Bool) :=
  obind (d_slices_IndexFunc_impl_Pair_impl_Pair fu sv1 f5) fun x14 => some (decide (x14 ≥ 0))

def d_impl_BoundsOk_1 (fu : Nat) (p1 : Pair) : Option (Bool) :=
  obind (d_impl_in fu p1.fA 0 3) fun x5 => bif (!x5) then some (true) else obind (d_impl_in fu p1.fB 0 3) fun x10 => some (!x10)

def d_slices_ContainsFunc_impl_Type_impl_Type (fu : Nat) (sv1 : List Typ) (f5 : Typ → Option Bool) : Option (Bool) :=
  obind (d_slices_IndexFunc_impl_Type_impl_Type fu sv1 f5) fun x14 => some (decide (x14 ≥ 0))

def d_impl_TypeOk (fu : Nat) (x1 : Typ) : Option (Bool) :=
  obind (d_impl_in fu x1.fId 0 999) fun x5 => bif x5 then obind (d_impl_isSide fu x1.fW) fun x10 => bif x10 then obind (d_impl_isSide fu x1.fH) fun x15 => bif x15 then obind (d_impl_isSide fu x1.fD) fun x20 => bif x20 then obind (d_impl_in fu x1.fTare 0 100000) fun x25 => bif x25 then obind (d_impl_in fu x1.fGram 1 100000) fun x30 => bif x30 then obind (d_impl_in fu x1.fCost 0 100000) fun x35 => some (x35) else some (false) else some (false) else some (false) else some (false) else some (false) else some (false)

def d_impl_BoundsOk_2 (fu : Nat) (t1 : Typ) : Option (Bool) :=
  obind (d_impl_TypeOk fu t1) fun x5 => some (!x5)

def d_impl_ItemOk (fu : Nat) (x1 : Item) : Option (Bool) :=
  obind (d_impl_in fu x1.fId 0 999) fun x5 => bif x5 then obind (d_impl_isSide fu x1.fW) fun x10 => bif x10 then obind (d_impl_isSide fu x1.fH) fun x15 => bif x15 then obind (d_impl_isSide fu x1.fD) fun x20 => bif x20 then obind (d_impl_in fu x1.fGram 1 100000) fun x25 => bif x25 then obind (d_impl_in fu x1.fClass 0 3) fun x30 => bif x30 then obind (d_impl_in fu x1.fCount 1 6) fun x35 => some (x35) else some (false) else some (false) else some (false) else some (false) else some (false) else some (false)

def d_impl_BoundsOk_L1_B (fu : Nat)  (r1 : Request) (k3 : Int → Int → Option (Bool)) (units93 : Int) (x94 : Int) : Option (Bool) :=
  bif (decide (x94 < ((r1.fItems.length : Int)))) then obind (ix r1.fItems x94) fun x97 => obind (d_impl_ItemOk fu x97) fun x104 => bif (!x104) then some (false) else k3 (w64 (units93 + x97.fCount)) (w64 (x94 + 1)) else some (decide (units93 ≤ 12))
def d_impl_BoundsOk_L1 (fu : Nat)  (r1 : Request) : Nat → Int → Int → Option (Bool)
  | 0 => fun _ _ => none
  | n + 1 => d_impl_BoundsOk_L1_B fu r1 (d_impl_BoundsOk_L1 fu r1 n)
theorem d_impl_BoundsOk_L1_s (fu : Nat)  (r1 : Request) (n : Nat) : d_impl_BoundsOk_L1 fu r1 (n + 1) = d_impl_BoundsOk_L1_B fu r1 (d_impl_BoundsOk_L1 fu r1 n) := rfl

def d_impl_BoundsOk_J1 (fu : Nat) (r1 : Request)  : Option (Bool) :=
  d_impl_BoundsOk_L1 fu r1 fu 0 0

def d_impl_BoundsOk_J2 (fu : Nat) (r1 : Request)  : Option (Bool) :=
  obind (d_slices_ContainsFunc_impl_Pair_impl_Pair fu r1.fPairs (fun y34 => d_impl_BoundsOk_1 fu y34)) fun x37 => bif x37 then some (false) else obind (d_impl_in fu ((r1.fTypes.length : Int)) 1 5) fun x109 => bif (!x109) then some (false) else obind (d_slices_ContainsFunc_impl_Type_impl_Type fu r1.fTypes (fun y114 => d_impl_BoundsOk_2 fu y114)) fun x117 => bif x117 then some (false) else obind (d_impl_in fu r1.fMaster 0 999) fun x122 => bif (!x122) then some (false) else bif (decide (((r1.fItems.length : Int)) > 8)) then some (false) else d_impl_BoundsOk_J1 fu r1

def d_impl_BoundsOk (fu : Nat) (r1 : Request) : Option (Bool) :=
  obind (d_impl_in fu r1.fWay 0 1) fun x128 => bif (!x128) then some (false) else obind (d_impl_PalletOk fu r1.fPallet) fun x133 => bif (!x133) then some (false) else obind (d_impl_in fu r1.fClasses 1 4) fun x138 => bif (!x138) then some (false) else bif (decide (((r1.fPairs.length : Int)) > 16)) then some (false) else d_impl_BoundsOk_J2 fu r1

def d_impl_namesOk_1 (fu : Nat) (q1 : Typ) (x2 : Typ) : Option (Bool) :=
  some (q1.fId == x2.fId)

def d_impl_namesOk_2 (fu : Nat) (q1 : Item) (x2 : Item) : Option (Bool) :=
  some (q1.fId == x2.fId)

def d_slices_IndexFunc_impl_Item_impl_Item_L1_B (fu : Nat)  (sv1 : List Item) (f5 : Item → Option Bool) (k1 : Int → Option (Int)) (x32 : Int) : Option (Int) :=
  bif (decide (x32 < ((sv1.length : Int)))) then obind (ix sv1 x32) fun x35 => obind (f5 x35) fun x37 => bif x37 then some (x32) else k1 (w64 (x32 + 1)) else some ((-1))
def d_slices_IndexFunc_impl_Item_impl_Item_L1 (fu : Nat)  (sv1 : List Item) (f5 : Item → Option Bool) : Nat → Int → Option (Int)
  | 0 => fun _ => none
  | n + 1 => d_slices_IndexFunc_impl_Item_impl_Item_L1_B fu sv1 f5 (d_slices_IndexFunc_impl_Item_impl_Item_L1 fu sv1 f5 n)
theorem d_slices_IndexFunc_impl_Item_impl_Item_L1_s (fu : Nat)  (sv1 : List Item) (f5 : Item → Option Bool) (n : Nat) : d_slices_IndexFunc_impl_Item_impl_Item_L1 fu sv1 f5 (n + 1) = d_slices_IndexFunc_impl_Item_impl_Item_L1_B fu sv1 f5 (d_slices_IndexFunc_impl_Item_impl_Item_L1 fu sv1 f5 n) := rfl

def d_slices_IndexFunc_impl_Item_impl_Item (fu : Nat) (sv1 : List Item) (f5 : Item → Option Bool) : Option (Int) :=
  d_slices_IndexFunc_impl_Item_impl_Item_L1 fu sv1 f5 fu 0

def d_slices_ContainsFunc_impl_Item_impl_Item (fu : Nat) (sv1 : List Item) (f5 : Item → Option Bool) : Option (Bool) :=
  obind (d_slices_IndexFunc_impl_Item_impl_Item fu sv1 f5) fun x14 => some (decide (x14 ≥ 0))

def d_impl_namesOk_3 (fu : Nat) (p1 : Pair) (x2 : Request) : Option (Bool) :=
  bif (decide (p1.fA ≥ x2.fClasses)) then some (true) else some (decide (p1.fB ≥ x2.fClasses))

def d_impl_namesOk_J1 (fu : Nat) (k4 : Int → Option (Bool)) (x178 : Int)  : Option (Bool) :=
  k4 (w64 (x178 + 1))

def d_impl_namesOk_L1_B (fu : Nat)  (r1 : Request) (k4 : Int → Option (Bool)) (x178 : Int) : Option (Bool) :=
  bif (decide (x178 < ((r1.fItems.length : Int)))) then obind (ix r1.fItems x178) fun x203 => bif (decide (x203.fClass ≥ r1.fClasses)) then some (false) else obind (sls r1.fItems 0 x178) fun x211 => obind (d_slices_ContainsFunc_impl_Item_impl_Item fu x211 (fun y216 => d_impl_namesOk_2 fu y216 x203)) fun x219 => bif x219 then some (false) else d_impl_namesOk_J1 fu k4 x178 else obind (d_impl_MasterOf fu r1) fun x224 => bif x224.2 then obind (d_slices_ContainsFunc_impl_Pair_impl_Pair fu r1.fPairs (fun y234 => d_impl_namesOk_3 fu y234 r1)) fun x237 => some (!x237) else some (false)
def d_impl_namesOk_L1 (fu : Nat)  (r1 : Request) : Nat → Int → Option (Bool)
  | 0 => fun _ => none
  | n + 1 => d_impl_namesOk_L1_B fu r1 (d_impl_namesOk_L1 fu r1 n)
theorem d_impl_namesOk_L1_s (fu : Nat)  (r1 : Request) (n : Nat) : d_impl_namesOk_L1 fu r1 (n + 1) = d_impl_namesOk_L1_B fu r1 (d_impl_namesOk_L1 fu r1 n) := rfl

def d_impl_namesOk_L2_B (fu : Nat)  (r1 : Request) (k1 : Int → Option (Bool)) (x63 : Int) : Option (Bool) :=
  bif (decide (x63 < ((r1.fTypes.length : Int)))) then obind (ix r1.fTypes x63) fun x66 => obind (sls r1.fTypes 0 x63) fun x73 => obind (d_slices_ContainsFunc_impl_Type_impl_Type fu x73 (fun y78 => d_impl_namesOk_1 fu y78 x66)) fun x81 => bif x81 then some (false) else k1 (w64 (x63 + 1)) else d_impl_namesOk_L1 fu r1 fu 0
def d_impl_namesOk_L2 (fu : Nat)  (r1 : Request) : Nat → Int → Option (Bool)
  | 0 => fun _ => none
  | n + 1 => d_impl_namesOk_L2_B fu r1 (d_impl_namesOk_L2 fu r1 n)
theorem d_impl_namesOk_L2_s (fu : Nat)  (r1 : Request) (n : Nat) : d_impl_namesOk_L2 fu r1 (n + 1) = d_impl_namesOk_L2_B fu r1 (d_impl_namesOk_L2 fu r1 n) := rfl

def d_impl_namesOk (fu : Nat) (r1 : Request) : Option (Bool) :=
  d_impl_namesOk_L2 fu r1 fu 0

def d_slices_Index_impl_Pair_impl_Pair_L1_B (fu : Nat)  (sv1 : List Pair) (v5 : Pair) (k1 : Int → Option (Int)) (x23 : Int) : Option (Int) :=
  bif (decide (x23 < ((sv1.length : Int)))) then obind (ix sv1 x23) fun x27 => bif (decide (v5 = x27)) then some (x23) else k1 (w64 (x23 + 1)) else some ((-1))
def d_slices_Index_impl_Pair_impl_Pair_L1 (fu : Nat)  (sv1 : List Pair) (v5 : Pair) : Nat → Int → Option (Int)
  | 0 => fun _ => none
  | n + 1 => d_slices_Index_impl_Pair_impl_Pair_L1_B fu sv1 v5 (d_slices_Index_impl_Pair_impl_Pair_L1 fu sv1 v5 n)
theorem d_slices_Index_impl_Pair_impl_Pair_L1_s (fu : Nat)  (sv1 : List Pair) (v5 : Pair) (n : Nat) : d_slices_Index_impl_Pair_impl_Pair_L1 fu sv1 v5 (n + 1) = d_slices_Index_impl_Pair_impl_Pair_L1_B fu sv1 v5 (d_slices_Index_impl_Pair_impl_Pair_L1 fu sv1 v5 n) := rfl

def d_slices_Index_impl_Pair_impl_Pair (fu : Nat) (sv1 : List Pair) (v5 : Pair) : Option (Int) :=
  d_slices_Index_impl_Pair_impl_Pair_L1 fu sv1 v5 fu 0

def d_slices_Contains_impl_Pair_impl_Pair (fu : Nat) (sv1 : List Pair) (v5 : Pair) : Option (Bool) :=
  obind (d_slices_Index_impl_Pair_impl_Pair fu sv1 v5) fun x9 => some (decide (x9 ≥ 0))

def d_impl_Beside (fu : Nat) (pairs1 : List Pair) (a5 : Int) (b6 : Int) : Option (Bool) :=
  obind (d_slices_Contains_impl_Pair_impl_Pair fu pairs1 ((⟨a5, b6⟩ : Pair))) fun x7 => some (x7)

def d_impl_TableOk_L1_B (fu : Nat) (k3 : Int → Option (Bool)) (pairs1 : List Pair) (classes5 : Int) (x99 : Int) (k4 : Int → Option (Bool)) (x131 : Int) : Option (Bool) :=
  bif (decide (x131 < classes5)) then obind (d_impl_Beside fu pairs1 x99 x131) fun x134 => obind (d_impl_Beside fu pairs1 x131 x99) fun x138 => bif (!(x134 == x138)) then some (false) else k4 (w64 (x131 + 1)) else k3 (w64 (x99 + 1))
def d_impl_TableOk_L1 (fu : Nat) (k3 : Int → Option (Bool)) (pairs1 : List Pair) (classes5 : Int) (x99 : Int) : Nat → Int → Option (Bool)
  | 0 => fun _ => none
  | n + 1 => d_impl_TableOk_L1_B fu k3 pairs1 classes5 x99 (d_impl_TableOk_L1 fu k3 pairs1 classes5 x99 n)
theorem d_impl_TableOk_L1_s (fu : Nat) (k3 : Int → Option (Bool)) (pairs1 : List Pair) (classes5 : Int) (x99 : Int) (n : Nat) : d_impl_TableOk_L1 fu k3 pairs1 classes5 x99 (n + 1) = d_impl_TableOk_L1_B fu k3 pairs1 classes5 x99 (d_impl_TableOk_L1 fu k3 pairs1 classes5 x99 n) := rfl

def d_impl_TableOk_L2_B (fu : Nat)  (pairs1 : List Pair) (classes5 : Int) (k3 : Int → Option (Bool)) (x99 : Int) : Option (Bool) :=
  bif (decide (x99 < classes5)) then obind (d_impl_Beside fu pairs1 x99 x99) fun x102 => bif (!x102) then some (false) else d_impl_TableOk_L1 fu k3 pairs1 classes5 x99 fu 0 else some (true)
def d_impl_TableOk_L2 (fu : Nat)  (pairs1 : List Pair) (classes5 : Int) : Nat → Int → Option (Bool)
  | 0 => fun _ => none
  | n + 1 => d_impl_TableOk_L2_B fu pairs1 classes5 (d_impl_TableOk_L2 fu pairs1 classes5 n)
theorem d_impl_TableOk_L2_s (fu : Nat)  (pairs1 : List Pair) (classes5 : Int) (n : Nat) : d_impl_TableOk_L2 fu pairs1 classes5 (n + 1) = d_impl_TableOk_L2_B fu pairs1 classes5 (d_impl_TableOk_L2 fu pairs1 classes5 n) := rfl

def d_impl_TableOk (fu : Nat) (pairs1 : List Pair) (classes5 : Int) : Option (Bool) :=
  obind (d_impl_in fu classes5 1 4) fun x6 => bif (!x6) then some (false) else d_impl_TableOk_L2 fu pairs1 classes5 fu 0

def d_slices_Sort_int_int (fu : Nat) (x1 : List Int) : Option (List Int) := sortI x1

def d_impl_Fits_J1 (fu : Nat) (x1 : Item) (t2 : Typ) (a39 : List Int) (b44 : List Int) : Option (Bool) :=
  obind (d_slices_Sort_int_int fu a39) fun x49 => obind (d_slices_Sort_int_int fu b44) fun x56 => obind (ix x49 0) fun x64 => obind (ix x56 0) fun x66 => bif (decide (x64 ≤ x66)) then obind (ix x49 1) fun x69 => obind (ix x56 1) fun x71 => bif (decide (x69 ≤ x71)) then obind (ix x49 2) fun x74 => obind (ix x56 2) fun x76 => bif (decide (x74 ≤ x76)) then some (decide (x1.fGram ≤ t2.fGram)) else some (false) else some (false) else some (false)

def d_impl_Fits (fu : Nat) (x1 : Item) (t2 : Typ) : Option (Bool) :=
  d_impl_Fits_J1 fu x1 t2 (([x1.fW, x1.fH, x1.fD] : List Int)) (([t2.fW, t2.fH, t2.fD] : List Int))

theorem c_spec_Units (fu : Nat) {w0 : World} (r1 : Request) {cs2 : List Value} {F3 : List Nat} (hp4 : rd w0 F3 cs2 r1) {r : (List Int)}
    (h : d_spec_Units fu r1 = some r) :
    Calls Tryz.prog 83 #[.agg cs2.toArray] w0 fun e w => ∃ (v0 : Value) (G0 : List Nat), e = .returned (v0) ∧ Ext [] w0 w ∧ ow w G0 [v0] r ∧ (∀ b ∈ G0, w0.heap.size ≤ b) := by
 refine enter (vs := [_]) func83 rfl ntmps83 rfl fun a k => ?_
 have m := St.start w0
 obtain ⟨v5, F6, v7, F8, v9, F10, rfl, rfl, hf11, hf12, hf13⟩ := hp4
 unfold d_spec_Units at h
 refine wr (s_box (cs := [.int .i64 r1.fWay, .int .i64 r1.fPallet.fW, .int .i64 r1.fPallet.fD, .int .i64 r1.fPallet.fH, .int .i64 r1.fPallet.fGram, .int .i64 r1.fClasses, v5, v7, .int .i64 r1.fMaster, v9]) m k rfl rfl rfl rfl rfl rfl fun b14 w16 a k m e hb15 => pN 1 k rfl fun a k => nn (wp_seq (wr (sv k rfl (r_ldB ta40 m 0 hb15 0 k rfl rfl rfl rfl rfl rfl) fun a k => oE h fun x17 hx18 h => cE k m call68 rfl rfl rfl (c_spec_Class fu _ (show rd _ _ [.int .i64 r1.fWay, .int .i64 r1.fPallet.fW, .int .i64 r1.fPallet.fD, .int .i64 r1.fPallet.fH, .int .i64 r1.fPallet.fGram, .int .i64 r1.fClasses, v5, v7, .int .i64 r1.fMaster, v9] (r1 : Request) from ⟨_, _, _, _, _, _, rfl, rfl, (Enc.rd_agr hf11 (m.a00 (Enc.rd_lt hf11))), (Enc.rd_agr hf12 (m.a00 (Enc.rd_lt hf12))), (Enc.rd_agr hf13 (m.a00 (Enc.rd_lt hf13)))⟩) hx18) fun w20 e a k m => ?_))))
 refine pN 1 k rfl fun a k => nn (cI h k rfl (fun hb21 h => ?_) fun hb21 h => ?_)
 · refine wr (s_bs (cs := []) (ps := []) te29 m k rfl rfl rfl rfl rfl rfl rfl (by decide) rfl (by exact (List.forall_mem_nil _)) fun g22 w23 e25 a k m e hb24 => ?_)
   have hf26 := ow_bx hb24 ([] : List Int) rfl rfl rfl
   refine pN 1 k rfl fun a k => nn (wp_ret (rt_then ?_))
   cases h
   exact finR1 k rfl (RV.tmp k rfl) ⟨_, [g22], rfl, m.ext, (Enc.ow_agr hf26 (m.a 0 rfl)), (m.fresh 0 rfl)⟩
 refine wp_skip (nm_then ?_)
 refine wr (sv k rfl (r_ldB ta40 m 0 hb15 0 k rfl rfl rfl rfl rfl rfl) fun a k => oE h fun x27 hx28 h => s_call k call106 rfl rfl rfl rfl rfl (c_spec_l6Units fu _ (show rd _ _ [.int .i64 r1.fWay, .int .i64 r1.fPallet.fW, .int .i64 r1.fPallet.fD, .int .i64 r1.fPallet.fH, .int .i64 r1.fPallet.fGram, .int .i64 r1.fClasses, v5, v7, .int .i64 r1.fMaster, v9] (r1 : Request) from ⟨_, _, _, _, _, _, rfl, rfl, (Enc.rd_agr hf11 (m.a00 (Enc.rd_lt hf11))), (Enc.rd_agr hf12 (m.a00 (Enc.rd_lt hf12))), (Enc.rd_agr hf13 (m.a00 (Enc.rd_lt hf13)))⟩) hx28) fun e29 w30 hR => ?_)
 obtain ⟨v35, F31, rfl, e, hf32, hfr33⟩ := hR
 refine ⟨_, rfl, fun a k => ?_⟩
 have m := m.new e F31 (fun b hb => ⟨hfr33 b hb, Enc.rd_lt (Enc.ow_rd hf32) b hb⟩) (Enc.ow_nd hf32)
 refine pN 1 k rfl fun a k => nn (wp_ret ?_)
 cases h
 exact finR1 k rfl (RV.tmp k rfl) ⟨_, F31, rfl, m.ext, (Enc.ow_agr hf32 (m.a 0 rfl)), (m.fresh 0 rfl)⟩
theorem c_spec_l15Flat (fu : Nat) {w0 : World} (x1 : Plan) {cs2 : List Value} {F3 : List Nat} (hp4 : rd w0 F3 cs2 x1) {r : (List Int)}
    (h : d_spec_l15Flat fu x1 = some r) :
    Calls Tryz.prog 121 #[.agg cs2.toArray] w0 fun e w => ∃ (v0 : Value) (G0 : List Nat), e = .returned (v0) ∧ Ext [] w0 w ∧ ow w G0 [v0] r ∧ (∀ b ∈ G0, w0.heap.size ≤ b) := by
 refine enter (vs := [_]) func121 rfl ntmps121 rfl fun a k => ?_
 have m := St.start w0
 obtain ⟨v5, F6, v7, F8, rfl, rfl, hf9, hf10⟩ := hp4
 unfold d_spec_l15Flat at h
 refine wr (s_box (cs := [v5, v7]) m k rfl rfl rfl rfl rfl rfl fun b11 w13 a k m e hb12 => pN 1 k rfl fun a k => nn (wr (s_bs (cs := []) (ps := []) te29 m k rfl rfl rfl rfl rfl rfl rfl (by decide) rfl (by exact (List.forall_mem_nil _)) fun g14 w15 e17 a k m e hb16 => ?_)))
 have hf18 := ow_bx hb16 ([] : List Int) rfl rfl rfl
 refine pN 1 k rfl fun a k => nn (wp_seq (wr (pN 1 k rfl fun a k => nn (wp_block (c_loop (fun n a w => ∃ (out62 : List Int) (v63 : Value) (F64 : List Nat) (u65 : World) (i67 : Int), K 22 [(1, .pointer (some (⟨b11, 0, none⟩ : Addr))), (3, v63), (4, .int .i64 i67)] a ∧ St [] w0 w [([b11], w13), (F64, u65)] ∧ ow u65 F64 [v63] out62 ∧ d_spec_l15Flat_L1 fu x1 n out62 i67 = some r) ?_ ?_ fu _ _ ?_)))))
 · rintro a w ⟨_, _, _, _, _, _, _, _, h⟩
   exact nS h
 · rintro m68 a w61 ⟨out62, v63, F64, u65, i67, k, m, hf66, h⟩
   rw [d_spec_l15Flat_L1_s] at h
   unfold d_spec_l15Flat_L1_B at h
   refine wp_seq (wr (pN 1 k rfl fun a k => sv k rfl (r_fa fa82_0 k rfl rfl) fun a k => sv k rfl (r_ldb t163 m 0 hb12 0 k rfl rfl rfl rfl rfl) fun a k => sv k rfl (r_len (α := Carton) hf9 k underlying63 rfl rfl) fun a k => pN 1 k rfl fun a k => nn (cI h k rfl (fun hb69 h => ?_) fun hb69 h => ?_)))
   · refine wp_skip (nm_then ?_)
     refine wp_seq (wp_block (wp_region_lit (pN 1 k rfl fun a k => sv k rfl (r_fa fa82_0 k rfl rfl) fun a k => sv k rfl (r_ldb t163 m 0 hb12 0 k rfl rfl rfl rfl rfl) fun a k => pN 1 k rfl fun a k => oE h fun x70 hx71 h => sv k rfl (r_ixa hf9 hx71 k ts63 rfl rfl rfl) fun a k => sv k rfl (r_fa fa42_2 k rfl rfl) fun a k => ?_)))
     obtain ⟨G72, cs73, hG74, hr75, hp76, hb77⟩ := rd_get hf9 (ix_some hx71).2.2
     obtain ⟨v78, _, rfl, rfl, hf79⟩ := hr75
     refine sv k rfl (r_ld1 t129 ((hp76.agr (m.a00 (Enc.rd_lt hf9)) hb77).fld 2 1 (Nat.le_of_ble_eq_true rfl)) k rfl rfl) fun a k => oE h fun x80 hx81 h => s_appF hx81 te29 rfl m 1 hf66 (News.rd (Enc.rd_agr hf79 (m.a00 (Enc.rd_lt hf79)))) rfl rfl k rfl rfl rfl rfl rfl rfl rfl fun v82 F83 w84 a k e m hf85 => pN 1 k rfl fun a k => wpList_nil (nm_block (nm_then ?_))
     refine wp_region_lit (pN 3 k rfl fun a k => nn ?_)
     exact ⟨x80, v82, F83, w84, w64 (i67 + 1), k.keep [1, 3, 4] rfl, m.sel [0, 1] rfl (by decide), hf85, h⟩
   refine wp_exit (ex_then (ex_then (ex_same (nm_then ?_))))
   refine wr (pN 2 k rfl fun a k => nn (wp_ret ?_))
   cases h
   exact finR1 k rfl (RV.tmp k rfl) ⟨_, F64, rfl, m.ext, (Enc.ow_agr hf66 (m.a 1 rfl)), (m.fresh 1 rfl)⟩
 exact ⟨([] : List Int), (.slice (some ⟨g14, 0, none⟩) 0 0), [g14], w15, 0, k.keep [1, 3, 4] rfl, m.sel [1, 0] rfl (by decide), hf18, h⟩
theorem c_spec_l1Bit (fu : Nat) {w0 : World} (on1 : Bool)  {r : Int}
    (h : d_spec_l1Bit fu on1 = some r) :
    Calls Tryz.prog 97 #[.bool (on1)] w0 fun e w => e = .returned (.int .i64 r) ∧ Ext [] w0 w := by
 refine enter (vs := [_]) func97 rfl ntmps97 rfl fun a k => ?_
 have m := St.start w0
 unfold d_spec_l1Bit at h
 refine wr (pN 1 k rfl fun a k => nn (wp_seq (wr (pN 1 k rfl fun a k => nn (cI h k rfl (fun hb2 h => ?_) fun hb2 h => ?_)))))
 · refine wr (pN 1 k rfl fun a k => nn (wp_ret (rt_then ?_)))
   refine fS h k m rfl rfl
 refine wp_skip (nm_then ?_)
 refine wr (pN 1 k rfl fun a k => nn (wp_ret (fS h k m rfl rfl)))
theorem c_spec_l8Times (fu : Nat) {w0 : World} (list1 : List Int) (x5 : Int) {v2 : Value} {F3 : List Nat} (hp4 : rd w0 F3 [v2] list1) {r : Int}
    (h : d_spec_l8Times fu list1 x5 = some r) :
    Calls Tryz.prog 122 #[v2, .int .i64 x5] w0 fun e w => e = .returned (.int .i64 r) ∧ Ext [] w0 w := by
 refine enter (vs := [_, _]) func122 rfl ntmps122 rfl fun a k => ?_
 have m := St.start w0
 unfold d_spec_l8Times at h
 refine wr (pN 1 k rfl fun a k => nn (wr (pN 1 k rfl fun a k => nn (wp_seq (wr (pN 1 k rfl fun a k => nn (wp_block (c_loop (fun n a w => ∃ (n25 : Int) (i26 : Int), K 23 [(0, v2), (1, .int .i64 x5), (5, .int .i64 n25), (6, .int .i64 i26)] a ∧ St [] w0 w [] ∧ d_spec_l8Times_L1 fu list1 x5 n n25 i26 = some r) ?_ ?_ fu _ _ ?_))))))))
 · rintro a w ⟨_, _, _, _, h⟩
   exact nS h
 · rintro m27 a w24 ⟨n25, i26, k, m, h⟩
   rw [d_spec_l8Times_L1_s] at h
   unfold d_spec_l8Times_L1_B at h
   refine wp_seq (wr (pN 2 k rfl fun a k => sv k rfl (r_len (α := Int) hp4 k underlying29 rfl rfl) fun a k => pN 1 k rfl fun a k => nn (cI h k rfl (fun hb28 h => ?_) fun hb28 h => ?_)))
   · refine wp_skip (nm_then ?_)
     refine wp_seq (wp_block (wp_region_lit (pN 3 k rfl fun a k => oE h fun x29 hx30 h => sv k rfl (r_ixa hp4 hx30 k ts29 rfl rfl rfl) fun a k => sv k rfl (r_lde1 hp4 (m.a00 (Enc.rd_lt hp4)) hx30 0 t13 k rfl rfl rfl rfl) fun a k => pN 2 k rfl fun a k => oE h fun x31 hx32 h => cE k m call97 rfl rfl rfl (c_spec_l1Bit fu _  hx32) fun w34 e a k m => pN 2 k rfl fun a k => wpList_nil (nm_block (nm_then ?_)))))
     refine wp_region_lit (pN 3 k rfl fun a k => nn ?_)
     exact ⟨w64 (n25 + x31), w64 (i26 + 1), k.keep [0, 1, 5, 6] rfl, m.sel [] rfl (by decide), h⟩
   refine wp_exit (ex_then (ex_then (ex_same (nm_then ?_))))
   refine wr (pN 2 k rfl fun a k => nn (wp_ret (fS h k m rfl rfl)))
 exact ⟨0, 0, k.keep [0, 1, 5, 6] rfl, m.sel [] rfl (by decide), h⟩
theorem c_spec_Lost (fu : Nat) {w0 : World} (r1 : Request) (x5 : Plan) {cs2 : List Value} {F3 : List Nat} (hp4 : rd w0 F3 cs2 r1) {cs6 : List Value} {F7 : List Nat} (hp8 : rd w0 F7 cs6 x5) {r : (List Int)}
    (h : d_spec_Lost fu r1 x5 = some r) :
    Calls Tryz.prog 56 #[.agg cs2.toArray, .agg cs6.toArray] w0 fun e w => ∃ (v0 : Value) (G0 : List Nat), e = .returned (v0) ∧ Ext [] w0 w ∧ ow w G0 [v0] r ∧ (∀ b ∈ G0, w0.heap.size ≤ b) := by
 refine enter (vs := [_, _]) func56 rfl ntmps56 rfl fun a k => ?_
 have m := St.start w0
 obtain ⟨v9, F10, v11, F12, v13, F14, rfl, rfl, hf15, hf16, hf17⟩ := hp4
 obtain ⟨v18, F19, v20, F21, rfl, rfl, hf22, hf23⟩ := hp8
 unfold d_spec_Lost at h
 refine wr (s_box (cs := [.int .i64 r1.fWay, .int .i64 r1.fPallet.fW, .int .i64 r1.fPallet.fD, .int .i64 r1.fPallet.fH, .int .i64 r1.fPallet.fGram, .int .i64 r1.fClasses, v9, v11, .int .i64 r1.fMaster, v13]) m k rfl rfl rfl rfl rfl rfl fun b24 w26 a k m e hb25 => s_box (cs := [v18, v20]) m k rfl rfl rfl rfl rfl rfl fun b27 w29 a k m e hb28 => pN 1 k rfl fun a k => nn (wr (s_bs (cs := []) (ps := []) te29 m k rfl rfl rfl rfl rfl rfl rfl (by decide) rfl (by exact (List.forall_mem_nil _)) fun g30 w31 e33 a k m e hb32 => ?_)))
 have hf34 := ow_bx hb32 ([] : List Int) rfl rfl rfl
 refine pN 1 k rfl fun a k => nn (wr (sv k rfl (r_ldB ta40 m 2 hb25 0 k rfl rfl rfl rfl rfl rfl) fun a k => oE h fun x35 hx36 h => s_call k call83 rfl rfl rfl rfl rfl (c_spec_Units fu _ (show rd _ _ [.int .i64 r1.fWay, .int .i64 r1.fPallet.fW, .int .i64 r1.fPallet.fD, .int .i64 r1.fPallet.fH, .int .i64 r1.fPallet.fGram, .int .i64 r1.fClasses, v9, v11, .int .i64 r1.fMaster, v13] (r1 : Request) from ⟨_, _, _, _, _, _, rfl, rfl, (Enc.rd_agr hf15 (m.a00 (Enc.rd_lt hf15))), (Enc.rd_agr hf16 (m.a00 (Enc.rd_lt hf16))), (Enc.rd_agr hf17 (m.a00 (Enc.rd_lt hf17)))⟩) hx36) fun e37 w38 hR => ?_))
 obtain ⟨v43, F39, rfl, e, hf40, hfr41⟩ := hR
 refine ⟨_, rfl, fun a k => ?_⟩
 have m := m.new e F39 (fun b hb => ⟨hfr41 b hb, Enc.rd_lt (Enc.ow_rd hf40) b hb⟩) (Enc.ow_nd hf40)
 refine pN 1 k rfl fun a k => nn (wr (sv k rfl (r_ldB ta82 m 2 hb28 0 k rfl rfl rfl rfl rfl rfl) fun a k => oE h fun x44 hx45 h => s_call k call121 rfl rfl rfl rfl rfl (c_spec_l15Flat fu _ (show rd _ _ [v18, v20] (x5 : Plan) from ⟨_, _, _, _, rfl, rfl, (Enc.rd_agr hf22 (m.a00 (Enc.rd_lt hf22))), (Enc.rd_agr hf23 (m.a00 (Enc.rd_lt hf23)))⟩) hx45) fun e46 w47 hR => ?_))
 obtain ⟨v52, F48, rfl, e, hf49, hfr50⟩ := hR
 refine ⟨_, rfl, fun a k => ?_⟩
 have m := m.new e F48 (fun b hb => ⟨hfr50 b hb, Enc.rd_lt (Enc.ow_rd hf49) b hb⟩) (Enc.ow_nd hf49)
 refine pN 1 k rfl fun a k => nn (wp_seq (wr (pN 1 k rfl fun a k => nn (wp_block (c_loop (fun n a w => ∃ (out140 : List Int) (v141 : Value) (F142 : List Nat) (u143 : World) (u145 : Int), K 29 [(5, v141), (6, v43), (7, v52), (8, .int .i64 u145)] a ∧ St [] w0 w [(F39, w38), (F48, w47), (F142, u143)] ∧ ow u143 F142 [v141] out140 ∧ d_spec_Lost_L1 fu x35 x44 n out140 u145 = some r) ?_ ?_ fu _ _ ?_)))))
 · rintro a w ⟨_, _, _, _, _, _, _, _, h⟩
   exact nS h
 · rintro m146 a w139 ⟨out140, v141, F142, u143, u145, k, m, hf144, h⟩
   rw [d_spec_Lost_L1_s] at h
   unfold d_spec_Lost_L1_B at h
   refine wp_seq (wr (pN 2 k rfl fun a k => sv k rfl (r_len (α := Int) (Enc.ow_rd hf40) k underlying29 rfl rfl) fun a k => pN 1 k rfl fun a k => nn (cI h k rfl (fun hb147 h => ?_) fun hb147 h => ?_)))
   · refine wp_skip (nm_then ?_)
     refine c_cut (fun a w => ∃ (out165 : List Int) (v166 : Value) (F167 : List Nat) (u168 : World), K 29 [(5, v166), (6, v43), (7, v52), (8, .int .i64 u145)] a ∧ St [] w0 w [(F39, w38), (F48, w47), (F167, u168)] ∧ ow u168 F167 [v166] out165 ∧ d_spec_Lost_J1 fu (d_spec_Lost_L1 fu x35 x44 m146) u145 out165 = some r) ?_ ?_
     · rintro a w164 ⟨out165, v166, F167, u168, k, m, hf169, h⟩
       unfold d_spec_Lost_J1 at h
       refine wp_region_lit (pN 3 k rfl fun a k => nn ?_)
       exact ⟨out165, v166, F167, u168, w64 (u145 + 1), k.keep [5, 6, 7, 8] rfl, m.sel [0, 1, 2] rfl (by decide), hf169, h⟩
     refine wp_block (wr (pN 2 k rfl fun a k => oE h fun x170 hx171 h => cE k m call122 rfl rfl rfl (c_spec_l8Times fu _ _ (Enc.rd_agr (Enc.ow_rd hf49) (m.a 1 rfl)) hx171) fun w173 e a k m => pN 1 k rfl fun a k => nn (cI h k rfl (fun hb174 h => ?_) fun hb174 h => ?_)))
     · refine wp_region_lit (pN 2 k rfl fun a k => s_bs (cs := [.int .i64 u145]) (ps := [(0, .tmp 25)]) te29 m k rfl rfl rfl rfl rfl rfl rfl (by decide) rfl (by exact (List.forall_mem_cons.2 ⟨rfl, (List.forall_mem_nil _)⟩)) fun g175 w176 e178 a k m e hb177 => ?_)
       have hf179 := ow_bx hb177 ([u145] : List Int) rfl rfl rfl
       refine oE h fun x180 hx181 h => s_appF hx181 te29 rfl m 3 hf144 (News.rd (Enc.rd_agr (Enc.ow_rd hf179) (m.a 0 rfl))) rfl rfl k rfl rfl rfl rfl rfl rfl rfl fun v182 F183 w184 a k e m hf185 => pN 1 k rfl fun a k => wpList_nil (nm_block (nm_then ?_))
       exact ⟨x180, v182, F183, w184, k.keep [5, 6, 7, 8] rfl, m.sel [1, 2, 3] rfl (by decide), hf185, h⟩
     refine wp_skip (nm_block (nm_then ?_))
     exact ⟨out140, v141, F142, u143, k.keep [5, 6, 7, 8] rfl, m.sel [0, 1, 2] rfl (by decide), hf144, h⟩
   refine wp_exit (ex_then (ex_then (ex_same (nm_then ?_))))
   refine wr (pN 2 k rfl fun a k => nn (wp_ret ?_))
   cases h
   exact finR1 k rfl (RV.tmp k rfl) ⟨_, F142, rfl, m.ext, (Enc.ow_agr hf144 (m.a 2 rfl)), (m.fresh 2 rfl)⟩
 exact ⟨([] : List Int), (.slice (some ⟨g30, 0, none⟩) 0 0), [g30], w31, 0, k.keep [5, 6, 7, 8] rfl, m.sel [1, 0, 2] rfl (by decide), hf34, h⟩
theorem c_impl_allUnits (fu : Nat) {w0 : World} (x1 : Plan) {cs2 : List Value} {F3 : List Nat} (hp4 : rd w0 F3 cs2 x1) {r : (List Int)}
    (h : d_impl_allUnits fu x1 = some r) :
    Calls Tryz.prog 124 #[.agg cs2.toArray] w0 fun e w => ∃ (v0 : Value) (G0 : List Nat), e = .returned (v0) ∧ Ext [] w0 w ∧ ow w G0 [v0] r ∧ (∀ b ∈ G0, w0.heap.size ≤ b) := by
 refine enter (vs := [_]) func124 rfl ntmps124 rfl fun a k => ?_
 have m := St.start w0
 obtain ⟨v5, F6, v7, F8, rfl, rfl, hf9, hf10⟩ := hp4
 unfold d_impl_allUnits at h
 refine wr (s_box (cs := [v5, v7]) m k rfl rfl rfl rfl rfl rfl fun b11 w13 a k m e hb12 => pN 1 k rfl fun a k => nn (wr (s_bs (cs := []) (ps := []) te29 m k rfl rfl rfl rfl rfl rfl rfl (by decide) rfl (by exact (List.forall_mem_nil _)) fun g14 w15 e17 a k m e hb16 => ?_)))
 have hf18 := ow_bx hb16 ([] : List Int) rfl rfl rfl
 refine pN 1 k rfl fun a k => nn (wp_seq (wr (sv k rfl (r_fa fa82_0 k rfl rfl) fun a k => sv k rfl (r_ldb t163 m 1 hb12 0 k rfl rfl rfl rfl rfl) fun a k => sv k rfl (r_len (α := Carton) hf9 k underlying63 rfl rfl) fun a k => pN 1 k rfl fun a k => nn (wp_block (c_loop (fun n a w => ∃ (out72 : List Int) (v73 : Value) (F74 : List Nat) (u75 : World) (x77 : Int), K 20 [(3, v73), (8, v5), (9, .int .i64 ((x1.fCartons.length : Int))), (10, .int .i64 x77)] a ∧ St [] w0 w [(F74, u75)] ∧ ow u75 F74 [v73] out72 ∧ d_impl_allUnits_L1 fu x1 n out72 x77 = some r) ?_ ?_ fu _ _ ?_)))))
 · rintro a w ⟨_, _, _, _, _, _, _, _, h⟩
   exact nS h
 · rintro m78 a w71 ⟨out72, v73, F74, u75, x77, k, m, hf76, h⟩
   rw [d_impl_allUnits_L1_s] at h
   unfold d_impl_allUnits_L1_B at h
   refine wr (pN 1 k rfl fun a k => nn (wp_seq (cI h k rfl (fun hb79 h => ?_) fun hb79 h => ?_)))
   · refine wp_skip (nm_then ?_)
     refine wp_seq (wp_block (wr (oE h fun x80 hx81 h => sv k rfl (r_ixa hf9 hx81 k ts63 rfl rfl rfl) fun a k => ?_)))
     obtain ⟨G82, cs83, hG84, hr85, hp86, hb87⟩ := rd_get hf9 (ix_some hx81).2.2
     obtain ⟨v88, _, rfl, rfl, hf89⟩ := hr85
     refine sv k rfl (r_ldA ta42 (hp86.agr (m.a00 (Enc.rd_lt hf9)) hb87) rfl k rfl rfl) fun a k => s_alloc (cs := [.int .i64 0, .int .i64 0, .slice none 0 0]) m k zeroValue42 rfl rfl rfl rfl rfl fun b90 w92 a k m e hb91 => s_stb (cs' := [.int .i64 x80.fType, .int .i64 x80.fGroup, v88]) sizeOf42 m 0 hb91 0 k rfl rfl rfl rfl rfl rfl rfl rfl rfl rfl (allc rfl (allc rfl (allc (rd_o hf89) alln))) fun w93 a k e m hb94 => nn (wp_region_lit (pN 1 k rfl fun a k => sv k rfl (r_fa fa42_2 k rfl rfl) fun a k => sv k rfl (r_ldb t129 m 0 hb94 2 k rfl rfl rfl rfl rfl) fun a k => oE h fun x95 hx96 h => s_appF hx96 te29 rfl m 1 hf76 (News.rd (Enc.rd_agr hf89 (m.a00 (Enc.rd_lt hf89)))) rfl rfl k rfl rfl rfl rfl rfl rfl rfl fun v97 F98 w99 a k e m hf100 => pN 1 k rfl fun a k => wpList_nil (nm_block (nm_then ?_))))
     refine wp_region_lit (pN 2 k rfl fun a k => nn ?_)
     exact ⟨x95, v97, F98, w99, w64 (x77 + 1), k.keep [3, 8, 9, 10] rfl, m.sel [1] rfl (by decide), hf100, h⟩
   refine wp_exit (ex_then (ex_then (ex_same (nm_then ?_))))
   refine wr (pN 2 k rfl fun a k => nn (wp_ret ?_))
   cases h
   exact finR1 k rfl (RV.tmp k rfl) ⟨_, F74, rfl, m.ext, (Enc.ow_agr hf76 (m.a 0 rfl)), (m.fresh 0 rfl)⟩
 exact ⟨([] : List Int), (.slice (some ⟨g14, 0, none⟩) 0 0), [g14], w15, 0, k.keep [3, 8, 9, 10] rfl, m.sel [0] rfl (by decide), hf18, h⟩
theorem c_impl_TypeById_1 (fu : Nat) {w0 : World} (t1 : Typ) (x2 : Int) {b3 : Nat} (hp4 : bx w0 b3 [.int .i64 x2] 3) {r : Bool}
    (h : d_impl_TypeById_1 fu t1 x2 = some r) :
    Calls Tryz.prog 141 #[.agg (Flat.e (t1)).toArray, .pointer (some (⟨b3, 0, none⟩ : Addr))] w0 fun e w => e = .returned (.bool (r)) ∧ Ext [] w0 w := by
 refine enter (vs := [_, _]) func141 rfl ntmps141 rfl fun a k => ?_
 have m := St.start w0
 unfold d_impl_TypeById_1 at h
 refine wr (s_box (cs := [.int .i64 t1.fId, .int .i64 t1.fW, .int .i64 t1.fH, .int .i64 t1.fD, .int .i64 t1.fTare, .int .i64 t1.fGram, .int .i64 t1.fCost]) m k rfl rfl rfl rfl rfl rfl fun b5 w7 a k m e hb6 => pN 1 k rfl fun a k => nn (wr (sv k rfl (r_fa fa92_0 k rfl rfl) fun a k => sv k rfl (r_ldb t13 m 0 hb6 0 k rfl rfl rfl rfl rfl) fun a k => sv k rfl (r_ld1 t13 (r := []) (hp4.at (m.a00 hp4.lt1) 0 1 rfl rfl rfl) k rfl rfl) fun a k => pN 2 k rfl fun a k => nn (wp_ret (fS h k m rfl rfl)))))
theorem c_slices_IndexFunc_impl_Type_impl_Type (fu : Nat) {w0 : World} (sv1 : List Typ) (f5 : Typ → Option Bool) {v2 : Value} {F3 : List Nat} (hp4 : rd w0 F3 [v2] sv1) {v6 : Value} (hp7 : FnOk1 Tryz.prog w0 v6 f5) {r : Int}
    (h : d_slices_IndexFunc_impl_Type_impl_Type fu sv1 f5 = some r) :
    Calls Tryz.prog 140 #[v2, v6] w0 fun e w => e = .returned (.int .i64 r) ∧ Ext [] w0 w := by
 refine enter (vs := [_, _]) func140 rfl ntmps140 rfl fun a k => ?_
 have m := St.start w0
 obtain ⟨fid8, cap9, rfl, hcl10, hcc11⟩ := hp7
 unfold d_slices_IndexFunc_impl_Type_impl_Type at h
 refine wr (pN 1 k rfl fun a k => nn (wp_seq (wr (pN 1 k rfl fun a k => sv k rfl (r_len (α := Typ) hp4 k underlying37 rfl rfl) fun a k => pN 1 k rfl fun a k => nn (wp_block (c_loop (fun n a w => ∃ (x32 : Int), K 19 [(0, v2), (1, (.func (.func fid8) #[] cap9.toArray)), (7, .int .i64 ((sv1.length : Int))), (8, .int .i64 x32)] a ∧ St [] w0 w [] ∧ d_slices_IndexFunc_impl_Type_impl_Type_L1 fu sv1 f5 n x32 = some r) ?_ ?_ fu _ _ ?_))))))
 · rintro a w ⟨_, _, _, h⟩
   exact nS h
 · rintro m33 a w31 ⟨x32, k, m, h⟩
   rw [d_slices_IndexFunc_impl_Type_impl_Type_L1_s] at h
   unfold d_slices_IndexFunc_impl_Type_impl_Type_L1_B at h
   refine wr (pN 1 k rfl fun a k => nn (wp_seq (cI h k rfl (fun hb34 h => ?_) fun hb34 h => ?_)))
   · refine wp_skip (nm_then ?_)
     refine wp_seq (wp_block (wr (pN 2 k rfl fun a k => nn (wr (pN 3 k rfl fun a k => oE h fun x35 hx36 h => sv k rfl (r_ixa hp4 hx36 k ts37 rfl rfl rfl) fun a k => sv k rfl (r_lde hp4 (m.a00 (Enc.rd_lt hp4)) hx36 ta92 k rfl rfl) fun a k => oE h fun x37 hx38 h => s_callv k hcl10 rfl rfl rfl rfl rfl rfl (hcc11 _ _ _ _ m.ext rfl hx38) fun e39 w40 hR => ?_)))))
     obtain ⟨rfl, e⟩ := hR
     refine ⟨_, rfl, fun a k => ?_⟩
     have m := m.step e
     refine nn (cI h k rfl (fun hb41 h => ?_) fun hb41 h => ?_)
     · refine wr (pN 2 k rfl fun a k => nn (wp_ret (rt_block (rt_then (rt_then (rt_block (rt_then ?_)))))))
       refine fS h k m rfl rfl
     refine wp_skip (nm_block (nm_then ?_))
     refine wp_region_lit (pN 2 k rfl fun a k => nn ?_)
     exact ⟨w64 (x32 + 1), k.keep [0, 1, 7, 8] rfl, m.sel [] rfl (by decide), h⟩
   refine wp_exit (ex_then (ex_then (ex_same (nm_then ?_))))
   refine wr (pN 1 k rfl fun a k => nn (wp_ret (fS h k m rfl rfl)))
 exact ⟨0, k.keep [0, 1, 7, 8] rfl, m.sel [] rfl (by decide), h⟩
theorem c_impl_TypeById (fu : Nat) {w0 : World} (r1 : Request) (id5 : Int) {cs2 : List Value} {F3 : List Nat} (hp4 : rd w0 F3 cs2 r1) {r : Typ × Bool}
    (h : d_impl_TypeById fu r1 id5 = some r) :
    Calls Tryz.prog 75 #[.agg cs2.toArray, .int .i64 id5] w0 fun e w => e = .returned (.tuple #[.agg (Flat.e r.1).toArray, .bool (r.2)]) ∧ Ext [] w0 w := by
 refine enter (vs := [_, _]) func75 rfl ntmps75 rfl fun a k => ?_
 have m := St.start w0
 obtain ⟨v6, F7, v8, F9, v10, F11, rfl, rfl, hf12, hf13, hf14⟩ := hp4
 unfold d_impl_TypeById at h
 refine wr (s_box (cs := [.int .i64 r1.fWay, .int .i64 r1.fPallet.fW, .int .i64 r1.fPallet.fD, .int .i64 r1.fPallet.fH, .int .i64 r1.fPallet.fGram, .int .i64 r1.fClasses, v6, v8, .int .i64 r1.fMaster, v10]) m k rfl rfl rfl rfl rfl rfl fun b15 w17 a k m e hb16 => s_box (cs := [.int .i64 id5]) m k rfl rfl rfl rfl rfl rfl fun b18 w20 a k m e hb19 => s_alloc (cs := [.int .i64 0, .int .i64 0, .int .i64 0, .int .i64 0, .int .i64 0, .int .i64 0, .int .i64 0]) m k zeroValue92 rfl rfl rfl rfl rfl fun b21 w23 a k m e hb22 => pN 1 k rfl fun a k => nn (wr (sv k rfl (r_fa fa40_4 k rfl rfl) fun a k => sv k rfl (r_ldb t137 m 2 hb16 7 k rfl rfl rfl rfl rfl) fun a k => pN 1 k rfl fun a k => oE h fun x27 hx28 h => ?_)))
 refine cE k m call140 rfl rfl rfl (c_slices_IndexFunc_impl_Type_impl_Type fu _ _ (Enc.rd_agr hf13 (m.a00 (Enc.rd_lt hf13))) ⟨141, [.pointer (some (⟨b18, 0, none⟩ : Addr))], rfl, call141, fun w y24 v25 r e hv26 hx => by subst hv26; have m := m.step e; exact c_impl_TypeById_1 fu _ _ (hb19.agr (m.a 1 rfl) (by simp)) hx⟩ hx28) fun w30 e a k m => pN 1 k rfl fun a k => nn (wp_seq (wr (pN 2 k rfl fun a k => nn (cI h k rfl (fun hb31 h => ?_) fun hb31 h => ?_))))
 · refine wr (sv k rfl (r_build bt92 k (ps := []) rfl rfl rfl) fun a k => s_stb (cs' := [.int .i64 0, .int .i64 0, .int .i64 0, .int .i64 0, .int .i64 0, .int .i64 0, .int .i64 0]) sizeOf92 m 0 hb22 0 k rfl rfl rfl rfl rfl rfl rfl rfl rfl rfl rfl fun w32 a k e m hb33 => pN 1 k rfl fun a k => nn (wp_ret (rt_then ?_)))
   cases h
   exact finR2 k rfl (RV.cA k rfl ta92 (hb33.at (m.a 0 rfl) 0 7 rfl rfl rfl) rfl) (RV.tmp k rfl) ⟨rfl, m.ext⟩
 refine wp_skip (nm_then ?_)
 refine wr (sv k rfl (r_fa fa40_4 k rfl rfl) fun a k => sv k rfl (r_ldb t137 m 2 hb16 7 k rfl rfl rfl rfl rfl) fun a k => pN 1 k rfl fun a k => oE h fun x34 hx35 h => sv k rfl (r_ixa hf13 hx35 k ts37 rfl rfl rfl) fun a k => sv k rfl (r_lde hf13 (m.a00 (Enc.rd_lt hf13)) hx35 ta92 k rfl rfl) fun a k => s_stb (cs' := [.int .i64 x34.fId, .int .i64 x34.fW, .int .i64 x34.fH, .int .i64 x34.fD, .int .i64 x34.fTare, .int .i64 x34.fGram, .int .i64 x34.fCost]) sizeOf92 m 0 hb22 0 k rfl rfl rfl rfl rfl rfl rfl rfl rfl rfl rfl fun w36 a k e m hb37 => pN 1 k rfl fun a k => nn (wp_ret ?_))
 cases h
 exact finR2 k rfl (RV.cA k rfl ta92 (hb37.at (m.a 0 rfl) 0 7 rfl rfl rfl) rfl) (RV.tmp k rfl) ⟨rfl, m.ext⟩
theorem c_impl_MasterOf (fu : Nat) {w0 : World} (r1 : Request) {cs2 : List Value} {F3 : List Nat} (hp4 : rd w0 F3 cs2 r1) {r : Typ × Bool}
    (h : d_impl_MasterOf fu r1 = some r) :
    Calls Tryz.prog 148 #[.agg cs2.toArray] w0 fun e w => e = .returned (.tuple #[.agg (Flat.e r.1).toArray, .bool (r.2)]) ∧ Ext [] w0 w := by
 refine enter (vs := [_]) func148 rfl ntmps148 rfl fun a k => ?_
 have m := St.start w0
 obtain ⟨v5, F6, v7, F8, v9, F10, rfl, rfl, hf11, hf12, hf13⟩ := hp4
 unfold d_impl_MasterOf at h
 refine wr (s_box (cs := [.int .i64 r1.fWay, .int .i64 r1.fPallet.fW, .int .i64 r1.fPallet.fD, .int .i64 r1.fPallet.fH, .int .i64 r1.fPallet.fGram, .int .i64 r1.fClasses, v5, v7, .int .i64 r1.fMaster, v9]) m k rfl rfl rfl rfl rfl rfl fun b14 w16 a k m e hb15 => s_alloc (cs := [.int .i64 0, .int .i64 0, .int .i64 0, .int .i64 0, .int .i64 0, .int .i64 0, .int .i64 0]) m k zeroValue92 rfl rfl rfl rfl rfl fun b17 w19 a k m e hb18 => pN 1 k rfl fun a k => nn (wr (sv k rfl (r_ldB ta40 m 1 hb15 0 k rfl rfl rfl rfl rfl rfl) fun a k => sv k rfl (r_fa fa40_5 k rfl rfl) fun a k => sv k rfl (r_ldb t13 m 1 hb15 8 k rfl rfl rfl rfl rfl) fun a k => oE h fun x20 hx21 h => ?_)))
 refine cE k m call75 rfl rfl rfl (c_impl_TypeById fu _ _ (show rd _ _ [.int .i64 r1.fWay, .int .i64 r1.fPallet.fW, .int .i64 r1.fPallet.fD, .int .i64 r1.fPallet.fH, .int .i64 r1.fPallet.fGram, .int .i64 r1.fClasses, v5, v7, .int .i64 r1.fMaster, v9] (r1 : Request) from ⟨_, _, _, _, _, _, rfl, rfl, (Enc.rd_agr hf11 (m.a00 (Enc.rd_lt hf11))), (Enc.rd_agr hf12 (m.a00 (Enc.rd_lt hf12))), (Enc.rd_agr hf13 (m.a00 (Enc.rd_lt hf13)))⟩) hx21) fun w23 e a k m => pN 2 k rfl fun a k => s_stb (cs' := [.int .i64 x20.1.fId, .int .i64 x20.1.fW, .int .i64 x20.1.fH, .int .i64 x20.1.fD, .int .i64 x20.1.fTare, .int .i64 x20.1.fGram, .int .i64 x20.1.fCost]) sizeOf92 m 0 hb18 0 k rfl rfl rfl rfl rfl rfl rfl rfl rfl rfl rfl fun w24 a k e m hb25 => pN 1 k rfl fun a k => nn (wp_ret ?_)
 cases h
 exact finR2 k rfl (RV.cA k rfl ta92 (hb25.at (m.a 0 rfl) 0 7 rfl rfl rfl) rfl) (RV.tmp k rfl) ⟨rfl, m.ext⟩
theorem c_impl_in (fu : Nat) {w0 : World} (n1 : Int) (lo2 : Int) (hi3 : Int)  {r : Bool}
    (h : d_impl_in fu n1 lo2 hi3 = some r) :
    Calls Tryz.prog 99 #[.int .i64 n1, .int .i64 lo2, .int .i64 hi3] w0 fun e w => e = .returned (.bool (r)) ∧ Ext [] w0 w := by
 refine enter (vs := [_, _, _]) func99 rfl ntmps99 rfl fun a k => ?_
 have m := St.start w0
 unfold d_impl_in at h
 refine wr (pN 1 k rfl fun a k => nn (wr (pN 4 k rfl fun a k => bsplit (decide (n1 ≥ lo2)) (fun hb4 => ?_) (fun hb4 => ?_))))
 · have h := bif_t hb4 h
   refine rB k 10 rfl hb4 fun k => pN 5 k rfl fun a k => nn (wp_ret (fS h k m rfl rfl))
 have h := bif_f hb4 h
 refine rB k 10 rfl hb4 fun k => pN 5 k rfl fun a k => nn (wp_ret (fS h k m rfl rfl))
theorem c_impl_isSide (fu : Nat) {w0 : World} (n1 : Int)  {r : Bool}
    (h : d_impl_isSide fu n1 = some r) :
    Calls Tryz.prog 224 #[.int .i64 n1] w0 fun e w => e = .returned (.bool (r)) ∧ Ext [] w0 w := by
 refine enter (vs := [_]) func224 rfl ntmps224 rfl fun a k => ?_
 have m := St.start w0
 unfold d_impl_isSide at h
 refine wr (pN 1 k rfl fun a k => nn (wr (pN 1 k rfl fun a k => oE h fun x2 hx3 h => cE k m call99 rfl rfl rfl (c_impl_in fu _ _ _  hx3) fun w5 e a k m => pN 1 k rfl fun a k => nn (wp_ret (fS h k m rfl rfl)))))
theorem c_impl_PalletOk (fu : Nat) {w0 : World} (x1 : Pallet)  {r : Bool}
    (h : d_impl_PalletOk fu x1 = some r) :
    Calls Tryz.prog 199 #[.agg (Flat.e (x1)).toArray] w0 fun e w => e = .returned (.bool (r)) ∧ Ext [] w0 w := by
 refine enter (vs := [_]) func199 rfl ntmps199 rfl fun a k => ?_
 have m := St.start w0
 unfold d_impl_PalletOk at h
 refine wr (s_box (cs := [.int .i64 x1.fW, .int .i64 x1.fD, .int .i64 x1.fH, .int .i64 x1.fGram]) m k rfl rfl rfl rfl rfl rfl fun b2 w4 a k m e hb3 => pN 1 k rfl fun a k => nn (wr (sv k rfl (r_fa fa35_0 k rfl rfl) fun a k => sv k rfl (r_ldb t13 m 0 hb3 0 k rfl rfl rfl rfl rfl) fun a k => oE h fun x5 hx6 h => cE k m call224 rfl rfl rfl (c_impl_isSide fu _  hx6) fun w8 e a k m => pN 1 k rfl fun a k => bsplit (x5) (fun hb9 => ?_) (fun hb9 => ?_))))
 · have h := bif_t hb9 h
   refine rB k 6 rfl hb9 fun k => sv k rfl (r_fa fa35_1 k rfl rfl) fun a k => sv k rfl (r_ldb t13 m 0 hb3 1 k rfl rfl rfl rfl rfl) fun a k => oE h fun x10 hx11 h => cE k m call224 rfl rfl rfl (c_impl_isSide fu _  hx11) fun w13 e a k m => pN 2 k rfl fun a k => bsplit (x10) (fun hb14 => ?_) (fun hb14 => ?_)
   · have h := bif_t hb14 h
     refine rB k 11 rfl hb14 fun k => sv k rfl (r_fa fa35_2 k rfl rfl) fun a k => sv k rfl (r_ldb t13 m 0 hb3 2 k rfl rfl rfl rfl rfl) fun a k => oE h fun x15 hx16 h => cE k m call224 rfl rfl rfl (c_impl_isSide fu _  hx16) fun w18 e a k m => pN 2 k rfl fun a k => bsplit (x15) (fun hb19 => ?_) (fun hb19 => ?_)
     · have h := bif_t hb19 h
       refine rB k 16 rfl hb19 fun k => sv k rfl (r_fa fa35_3 k rfl rfl) fun a k => sv k rfl (r_ldb t13 m 0 hb3 3 k rfl rfl rfl rfl rfl) fun a k => oE h fun x20 hx21 h => cE k m call99 rfl rfl rfl (c_impl_in fu _ _ _  hx21) fun w23 e a k m => pN 2 k rfl fun a k => nn (wp_ret (fS h k m rfl rfl))
     have h := bif_f hb19 h
     refine rB k 16 rfl hb19 fun k => pN 5 k rfl fun a k => nn (wp_ret (fS h k m rfl rfl))
   have h := bif_f hb14 h
   refine rB k 11 rfl hb14 fun k => pN 10 k rfl fun a k => nn (wp_ret (fS h k m rfl rfl))
 have h := bif_f hb9 h
 refine rB k 6 rfl hb9 fun k => pN 15 k rfl fun a k => nn (wp_ret (fS h k m rfl rfl))
theorem c_slices_IndexFunc_impl_Pair_impl_Pair (fu : Nat) {w0 : World} (sv1 : List Pair) (f5 : Pair → Option Bool) {v2 : Value} {F3 : List Nat} (hp4 : rd w0 F3 [v2] sv1) {v6 : Value} (hp7 : FnOk1 Tryz.prog w0 v6 f5) {r : Int}
    (h : d_slices_IndexFunc_impl_Pair_impl_Pair fu sv1 f5 = some r) :
    Calls Tryz.prog 225 #[v2, v6] w0 fun e w => e = .returned (.int .i64 r) ∧ Ext [] w0 w := by
 refine enter (vs := [_, _]) func225 rfl ntmps225 rfl fun a k => ?_
 have m := St.start w0
 obtain ⟨fid8, cap9, rfl, hcl10, hcc11⟩ := hp7
 unfold d_slices_IndexFunc_impl_Pair_impl_Pair at h
 refine wr (pN 1 k rfl fun a k => nn (wp_seq (wr (pN 1 k rfl fun a k => sv k rfl (r_len (α := Pair) hp4 k underlying36 rfl rfl) fun a k => pN 1 k rfl fun a k => nn (wp_block (c_loop (fun n a w => ∃ (x32 : Int), K 19 [(0, v2), (1, (.func (.func fid8) #[] cap9.toArray)), (7, .int .i64 ((sv1.length : Int))), (8, .int .i64 x32)] a ∧ St [] w0 w [] ∧ d_slices_IndexFunc_impl_Pair_impl_Pair_L1 fu sv1 f5 n x32 = some r) ?_ ?_ fu _ _ ?_))))))
 · rintro a w ⟨_, _, _, h⟩
   exact nS h
 · rintro m33 a w31 ⟨x32, k, m, h⟩
   rw [d_slices_IndexFunc_impl_Pair_impl_Pair_L1_s] at h
   unfold d_slices_IndexFunc_impl_Pair_impl_Pair_L1_B at h
   refine wr (pN 1 k rfl fun a k => nn (wp_seq (cI h k rfl (fun hb34 h => ?_) fun hb34 h => ?_)))
   · refine wp_skip (nm_then ?_)
     refine wp_seq (wp_block (wr (pN 2 k rfl fun a k => nn (wr (pN 3 k rfl fun a k => oE h fun x35 hx36 h => sv k rfl (r_ixa hp4 hx36 k ts36 rfl rfl rfl) fun a k => sv k rfl (r_lde hp4 (m.a00 (Enc.rd_lt hp4)) hx36 ta144 k rfl rfl) fun a k => oE h fun x37 hx38 h => s_callv k hcl10 rfl rfl rfl rfl rfl rfl (hcc11 _ _ _ _ m.ext rfl hx38) fun e39 w40 hR => ?_)))))
     obtain ⟨rfl, e⟩ := hR
     refine ⟨_, rfl, fun a k => ?_⟩
     have m := m.step e
     refine nn (cI h k rfl (fun hb41 h => ?_) fun hb41 h => ?_)
     · refine wr (pN 2 k rfl fun a k => nn (wp_ret (rt_block (rt_then (rt_then (rt_block (rt_then ?_)))))))
       refine fS h k m rfl rfl
     refine wp_skip (nm_block (nm_then ?_))
     refine wp_region_lit (pN 2 k rfl fun a k => nn ?_)
     exact ⟨w64 (x32 + 1), k.keep [0, 1, 7, 8] rfl, m.sel [] rfl (by decide), h⟩
   refine wp_exit (ex_then (ex_then (ex_same (nm_then ?_))))
   refine wr (pN 1 k rfl fun a k => nn (wp_ret (fS h k m rfl rfl)))
 exact ⟨0, k.keep [0, 1, 7, 8] rfl, m.sel [] rfl (by decide), h⟩
theorem c_slices_ContainsFunc_impl_Pair_impl_Pair (fu : Nat) {w0 : World} (sv1 : List Pair) (f5 : Pair → Option Bool) {v2 : Value} {F3 : List Nat} (hp4 : rd w0 F3 [v2] sv1) {v6 : Value} (hp7 : FnOk1 Tryz.prog w0 v6 f5) {r : Bool}
    (h : d_slices_ContainsFunc_impl_Pair_impl_Pair fu sv1 f5 = some r) :
    Calls Tryz.prog 200 #[v2, v6] w0 fun e w => e = .returned (.bool (r)) ∧ Ext [] w0 w := by
 refine enter (vs := [_, _]) func200 rfl ntmps200 rfl fun a k => ?_
 have m := St.start w0
 obtain ⟨fid8, cap9, rfl, hcl10, hcc11⟩ := hp7
 unfold d_slices_ContainsFunc_impl_Pair_impl_Pair at h
 refine wr (pN 1 k rfl fun a k => nn (wr (pN 2 k rfl fun a k => oE h fun x14 hx15 h => cE k m call225 rfl rfl rfl (c_slices_IndexFunc_impl_Pair_impl_Pair fu _ _ (Enc.rd_agr hp4 (m.a00 (Enc.rd_lt hp4))) ⟨_, _, rfl, hcl10, fun w y12 v13 r e => hcc11 w y12 v13 r (m.ext.trans e (by simp))⟩ hx15) fun w17 e a k m => pN 2 k rfl fun a k => nn (wp_ret (fS h k m rfl rfl)))))
theorem c_impl_BoundsOk_1 (fu : Nat) {w0 : World} (p1 : Pair)  {r : Bool}
    (h : d_impl_BoundsOk_1 fu p1 = some r) :
    Calls Tryz.prog 201 #[.agg (Flat.e (p1)).toArray] w0 fun e w => e = .returned (.bool (r)) ∧ Ext [] w0 w := by
 refine enter (vs := [_]) func201 rfl ntmps201 rfl fun a k => ?_
 have m := St.start w0
 unfold d_impl_BoundsOk_1 at h
 refine wr (s_box (cs := [.int .i64 p1.fA, .int .i64 p1.fB]) m k rfl rfl rfl rfl rfl rfl fun b2 w4 a k m e hb3 => pN 1 k rfl fun a k => nn (wr (sv k rfl (r_fa fa144_0 k rfl rfl) fun a k => sv k rfl (r_ldb t13 m 0 hb3 0 k rfl rfl rfl rfl rfl) fun a k => oE h fun x5 hx6 h => cE k m call99 rfl rfl rfl (c_impl_in fu _ _ _  hx6) fun w8 e a k m => pN 2 k rfl fun a k => bsplit (!x5) (fun hb9 => ?_) (fun hb9 => ?_))))
 · have h := bif_t hb9 h
   refine rB k 7 rfl hb9 fun k => pN 6 k rfl fun a k => nn (wp_ret (fS h k m rfl rfl))
 have h := bif_f hb9 h
 refine rB k 7 rfl hb9 fun k => sv k rfl (r_fa fa144_1 k rfl rfl) fun a k => sv k rfl (r_ldb t13 m 0 hb3 1 k rfl rfl rfl rfl rfl) fun a k => oE h fun x10 hx11 h => cE k m call99 rfl rfl rfl (c_impl_in fu _ _ _  hx11) fun w13 e a k m => pN 3 k rfl fun a k => nn (wp_ret (fS h k m rfl rfl))
theorem c_slices_ContainsFunc_impl_Type_impl_Type (fu : Nat) {w0 : World} (sv1 : List Typ) (f5 : Typ → Option Bool) {v2 : Value} {F3 : List Nat} (hp4 : rd w0 F3 [v2] sv1) {v6 : Value} (hp7 : FnOk1 Tryz.prog w0 v6 f5) {r : Bool}
    (h : d_slices_ContainsFunc_impl_Type_impl_Type fu sv1 f5 = some r) :
    Calls Tryz.prog 184 #[v2, v6] w0 fun e w => e = .returned (.bool (r)) ∧ Ext [] w0 w := by
 refine enter (vs := [_, _]) func184 rfl ntmps184 rfl fun a k => ?_
 have m := St.start w0
 obtain ⟨fid8, cap9, rfl, hcl10, hcc11⟩ := hp7
 unfold d_slices_ContainsFunc_impl_Type_impl_Type at h
 refine wr (pN 1 k rfl fun a k => nn (wr (pN 2 k rfl fun a k => oE h fun x14 hx15 h => cE k m call140 rfl rfl rfl (c_slices_IndexFunc_impl_Type_impl_Type fu _ _ (Enc.rd_agr hp4 (m.a00 (Enc.rd_lt hp4))) ⟨_, _, rfl, hcl10, fun w y12 v13 r e => hcc11 w y12 v13 r (m.ext.trans e (by simp))⟩ hx15) fun w17 e a k m => pN 2 k rfl fun a k => nn (wp_ret (fS h k m rfl rfl)))))
theorem c_impl_TypeOk (fu : Nat) {w0 : World} (x1 : Typ)  {r : Bool}
    (h : d_impl_TypeOk fu x1 = some r) :
    Calls Tryz.prog 203 #[.agg (Flat.e (x1)).toArray] w0 fun e w => e = .returned (.bool (r)) ∧ Ext [] w0 w := by
 refine enter (vs := [_]) func203 rfl ntmps203 rfl fun a k => ?_
 have m := St.start w0
 unfold d_impl_TypeOk at h
 refine wr (s_box (cs := [.int .i64 x1.fId, .int .i64 x1.fW, .int .i64 x1.fH, .int .i64 x1.fD, .int .i64 x1.fTare, .int .i64 x1.fGram, .int .i64 x1.fCost]) m k rfl rfl rfl rfl rfl rfl fun b2 w4 a k m e hb3 => pN 1 k rfl fun a k => nn (wr (sv k rfl (r_fa fa92_0 k rfl rfl) fun a k => sv k rfl (r_ldb t13 m 0 hb3 0 k rfl rfl rfl rfl rfl) fun a k => oE h fun x5 hx6 h => cE k m call99 rfl rfl rfl (c_impl_in fu _ _ _  hx6) fun w8 e a k m => pN 1 k rfl fun a k => bsplit (x5) (fun hb9 => ?_) (fun hb9 => ?_))))
 · have h := bif_t hb9 h
   refine rB k 6 rfl hb9 fun k => sv k rfl (r_fa fa92_1 k rfl rfl) fun a k => sv k rfl (r_ldb t13 m 0 hb3 1 k rfl rfl rfl rfl rfl) fun a k => oE h fun x10 hx11 h => cE k m call224 rfl rfl rfl (c_impl_isSide fu _  hx11) fun w13 e a k m => pN 2 k rfl fun a k => bsplit (x10) (fun hb14 => ?_) (fun hb14 => ?_)
   · have h := bif_t hb14 h
     refine rB k 11 rfl hb14 fun k => sv k rfl (r_fa fa92_2 k rfl rfl) fun a k => sv k rfl (r_ldb t13 m 0 hb3 2 k rfl rfl rfl rfl rfl) fun a k => oE h fun x15 hx16 h => cE k m call224 rfl rfl rfl (c_impl_isSide fu _  hx16) fun w18 e a k m => pN 2 k rfl fun a k => bsplit (x15) (fun hb19 => ?_) (fun hb19 => ?_)
     · have h := bif_t hb19 h
       refine rB k 16 rfl hb19 fun k => sv k rfl (r_fa fa92_3 k rfl rfl) fun a k => sv k rfl (r_ldb t13 m 0 hb3 3 k rfl rfl rfl rfl rfl) fun a k => oE h fun x20 hx21 h => cE k m call224 rfl rfl rfl (c_impl_isSide fu _  hx21) fun w23 e a k m => pN 2 k rfl fun a k => bsplit (x20) (fun hb24 => ?_) (fun hb24 => ?_)
       · have h := bif_t hb24 h
         refine rB k 21 rfl hb24 fun k => sv k rfl (r_fa fa92_4 k rfl rfl) fun a k => sv k rfl (r_ldb t13 m 0 hb3 4 k rfl rfl rfl rfl rfl) fun a k => oE h fun x25 hx26 h => cE k m call99 rfl rfl rfl (c_impl_in fu _ _ _  hx26) fun w28 e a k m => pN 2 k rfl fun a k => bsplit (x25) (fun hb29 => ?_) (fun hb29 => ?_)
         · have h := bif_t hb29 h
           refine rB k 26 rfl hb29 fun k => sv k rfl (r_fa fa92_5 k rfl rfl) fun a k => sv k rfl (r_ldb t13 m 0 hb3 5 k rfl rfl rfl rfl rfl) fun a k => oE h fun x30 hx31 h => cE k m call99 rfl rfl rfl (c_impl_in fu _ _ _  hx31) fun w33 e a k m => pN 2 k rfl fun a k => bsplit (x30) (fun hb34 => ?_) (fun hb34 => ?_)
           · have h := bif_t hb34 h
             refine rB k 31 rfl hb34 fun k => sv k rfl (r_fa fa92_6 k rfl rfl) fun a k => sv k rfl (r_ldb t13 m 0 hb3 6 k rfl rfl rfl rfl rfl) fun a k => oE h fun x35 hx36 h => cE k m call99 rfl rfl rfl (c_impl_in fu _ _ _  hx36) fun w38 e a k m => pN 2 k rfl fun a k => ?_
             have k := k.keep [2] rfl
             refine nn (wp_ret (fS h k m rfl rfl))
           have h := bif_f hb34 h
           refine rB k 31 rfl hb34 fun k => pN 5 k rfl fun a k => ?_
           have k := k.keep [2] rfl
           refine nn (wp_ret (fS h k m rfl rfl))
         have h := bif_f hb29 h
         refine rB k 26 rfl hb29 fun k => pN 10 k rfl fun a k => ?_
         have k := k.keep [2] rfl
         refine nn (wp_ret (fS h k m rfl rfl))
       have h := bif_f hb24 h
       refine rB k 21 rfl hb24 fun k => pN 15 k rfl fun a k => ?_
       have k := k.keep [2] rfl
       refine nn (wp_ret (fS h k m rfl rfl))
     have h := bif_f hb19 h
     refine rB k 16 rfl hb19 fun k => pN 20 k rfl fun a k => ?_
     have k := k.keep [2] rfl
     refine nn (wp_ret (fS h k m rfl rfl))
   have h := bif_f hb14 h
   refine rB k 11 rfl hb14 fun k => pN 25 k rfl fun a k => ?_
   have k := k.keep [2] rfl
   refine nn (wp_ret (fS h k m rfl rfl))
 have h := bif_f hb9 h
 refine rB k 6 rfl hb9 fun k => pN 30 k rfl fun a k => ?_
 have k := k.keep [2] rfl
 refine nn (wp_ret (fS h k m rfl rfl))
theorem c_impl_BoundsOk_2 (fu : Nat) {w0 : World} (t1 : Typ)  {r : Bool}
    (h : d_impl_BoundsOk_2 fu t1 = some r) :
    Calls Tryz.prog 202 #[.agg (Flat.e (t1)).toArray] w0 fun e w => e = .returned (.bool (r)) ∧ Ext [] w0 w := by
 refine enter (vs := [_]) func202 rfl ntmps202 rfl fun a k => ?_
 have m := St.start w0
 unfold d_impl_BoundsOk_2 at h
 refine wr (s_box (cs := [.int .i64 t1.fId, .int .i64 t1.fW, .int .i64 t1.fH, .int .i64 t1.fD, .int .i64 t1.fTare, .int .i64 t1.fGram, .int .i64 t1.fCost]) m k rfl rfl rfl rfl rfl rfl fun b2 w4 a k m e hb3 => pN 1 k rfl fun a k => nn (wr (sv k rfl (r_ldB ta92 m 0 hb3 0 k rfl rfl rfl rfl rfl rfl) fun a k => oE h fun x5 hx6 h => cE k m call203 rfl rfl rfl (c_impl_TypeOk fu (t1 : Typ)  hx6) fun w8 e a k m => pN 2 k rfl fun a k => nn (wp_ret (fS h k m rfl rfl)))))
theorem c_impl_ItemOk (fu : Nat) {w0 : World} (x1 : Item)  {r : Bool}
    (h : d_impl_ItemOk fu x1 = some r) :
    Calls Tryz.prog 204 #[.agg (Flat.e (x1)).toArray] w0 fun e w => e = .returned (.bool (r)) ∧ Ext [] w0 w := by
 refine enter (vs := [_]) func204 rfl ntmps204 rfl fun a k => ?_
 have m := St.start w0
 unfold d_impl_ItemOk at h
 refine wr (s_box (cs := [.int .i64 x1.fId, .int .i64 x1.fW, .int .i64 x1.fH, .int .i64 x1.fD, .int .i64 x1.fGram, .int .i64 x1.fClass, .int .i64 x1.fCount]) m k rfl rfl rfl rfl rfl rfl fun b2 w4 a k m e hb3 => pN 1 k rfl fun a k => nn (wr (sv k rfl (r_fa fa120_0 k rfl rfl) fun a k => sv k rfl (r_ldb t13 m 0 hb3 0 k rfl rfl rfl rfl rfl) fun a k => oE h fun x5 hx6 h => cE k m call99 rfl rfl rfl (c_impl_in fu _ _ _  hx6) fun w8 e a k m => pN 1 k rfl fun a k => bsplit (x5) (fun hb9 => ?_) (fun hb9 => ?_))))
 · have h := bif_t hb9 h
   refine rB k 6 rfl hb9 fun k => sv k rfl (r_fa fa120_1 k rfl rfl) fun a k => sv k rfl (r_ldb t13 m 0 hb3 1 k rfl rfl rfl rfl rfl) fun a k => oE h fun x10 hx11 h => cE k m call224 rfl rfl rfl (c_impl_isSide fu _  hx11) fun w13 e a k m => pN 2 k rfl fun a k => bsplit (x10) (fun hb14 => ?_) (fun hb14 => ?_)
   · have h := bif_t hb14 h
     refine rB k 11 rfl hb14 fun k => sv k rfl (r_fa fa120_2 k rfl rfl) fun a k => sv k rfl (r_ldb t13 m 0 hb3 2 k rfl rfl rfl rfl rfl) fun a k => oE h fun x15 hx16 h => cE k m call224 rfl rfl rfl (c_impl_isSide fu _  hx16) fun w18 e a k m => pN 2 k rfl fun a k => bsplit (x15) (fun hb19 => ?_) (fun hb19 => ?_)
     · have h := bif_t hb19 h
       refine rB k 16 rfl hb19 fun k => sv k rfl (r_fa fa120_3 k rfl rfl) fun a k => sv k rfl (r_ldb t13 m 0 hb3 3 k rfl rfl rfl rfl rfl) fun a k => oE h fun x20 hx21 h => cE k m call224 rfl rfl rfl (c_impl_isSide fu _  hx21) fun w23 e a k m => pN 2 k rfl fun a k => bsplit (x20) (fun hb24 => ?_) (fun hb24 => ?_)
       · have h := bif_t hb24 h
         refine rB k 21 rfl hb24 fun k => sv k rfl (r_fa fa120_4 k rfl rfl) fun a k => sv k rfl (r_ldb t13 m 0 hb3 4 k rfl rfl rfl rfl rfl) fun a k => oE h fun x25 hx26 h => cE k m call99 rfl rfl rfl (c_impl_in fu _ _ _  hx26) fun w28 e a k m => pN 2 k rfl fun a k => bsplit (x25) (fun hb29 => ?_) (fun hb29 => ?_)
         · have h := bif_t hb29 h
           refine rB k 26 rfl hb29 fun k => sv k rfl (r_fa fa120_5 k rfl rfl) fun a k => sv k rfl (r_ldb t13 m 0 hb3 5 k rfl rfl rfl rfl rfl) fun a k => oE h fun x30 hx31 h => cE k m call99 rfl rfl rfl (c_impl_in fu _ _ _  hx31) fun w33 e a k m => pN 2 k rfl fun a k => bsplit (x30) (fun hb34 => ?_) (fun hb34 => ?_)
           · have h := bif_t hb34 h
             refine rB k 31 rfl hb34 fun k => sv k rfl (r_fa fa120_6 k rfl rfl) fun a k => sv k rfl (r_ldb t13 m 0 hb3 6 k rfl rfl rfl rfl rfl) fun a k => oE h fun x35 hx36 h => cE k m call99 rfl rfl rfl (c_impl_in fu _ _ _  hx36) fun w38 e a k m => pN 2 k rfl fun a k => ?_
             have k := k.keep [2] rfl
             refine nn (wp_ret (fS h k m rfl rfl))
           have h := bif_f hb34 h
           refine rB k 31 rfl hb34 fun k => pN 5 k rfl fun a k => ?_
           have k := k.keep [2] rfl
           refine nn (wp_ret (fS h k m rfl rfl))
         have h := bif_f hb29 h
         refine rB k 26 rfl hb29 fun k => pN 10 k rfl fun a k => ?_
         have k := k.keep [2] rfl
         refine nn (wp_ret (fS h k m rfl rfl))
       have h := bif_f hb24 h
       refine rB k 21 rfl hb24 fun k => pN 15 k rfl fun a k => ?_
       have k := k.keep [2] rfl
       refine nn (wp_ret (fS h k m rfl rfl))
     have h := bif_f hb19 h
     refine rB k 16 rfl hb19 fun k => pN 20 k rfl fun a k => ?_
     have k := k.keep [2] rfl
     refine nn (wp_ret (fS h k m rfl rfl))
   have h := bif_f hb14 h
   refine rB k 11 rfl hb14 fun k => pN 25 k rfl fun a k => ?_
   have k := k.keep [2] rfl
   refine nn (wp_ret (fS h k m rfl rfl))
 have h := bif_f hb9 h
 refine rB k 6 rfl hb9 fun k => pN 30 k rfl fun a k => ?_
 have k := k.keep [2] rfl
 refine nn (wp_ret (fS h k m rfl rfl))
theorem c_impl_BoundsOk (fu : Nat) {w0 : World} (r1 : Request) {cs2 : List Value} {F3 : List Nat} (hp4 : rd w0 F3 cs2 r1) {r : Bool}
    (h : d_impl_BoundsOk fu r1 = some r) :
    Calls Tryz.prog 179 #[.agg cs2.toArray] w0 fun e w => e = .returned (.bool (r)) ∧ Ext [] w0 w := by
 refine enter (vs := [_]) func179 rfl ntmps179 rfl fun a k => ?_
 have m := St.start w0
 obtain ⟨v5, F6, v7, F8, v9, F10, rfl, rfl, hf11, hf12, hf13⟩ := hp4
 unfold d_impl_BoundsOk at h
 refine wr (s_box (cs := [.int .i64 r1.fWay, .int .i64 r1.fPallet.fW, .int .i64 r1.fPallet.fD, .int .i64 r1.fPallet.fH, .int .i64 r1.fPallet.fGram, .int .i64 r1.fClasses, v5, v7, .int .i64 r1.fMaster, v9]) m k rfl rfl rfl rfl rfl rfl fun b14 w16 a k m e hb15 => pN 1 k rfl fun a k => nn (c_cut (fun a w => K 70 [(1, .pointer (some (⟨b14, 0, none⟩ : Addr)))] a ∧ St [] w0 w [([b14], w16)] ∧ d_impl_BoundsOk_J2 fu r1 = some r) ?_ ?_))
 · rintro a w33 ⟨k, m, h⟩
   unfold d_impl_BoundsOk_J2 at h
   refine wp_seq (wr (sv k rfl (r_fa fa40_3 k rfl rfl) fun a k => sv k rfl (r_ldb t136 m 0 hb15 6 k rfl rfl rfl rfl rfl) fun a k => oE h fun x37 hx38 h => cE k m call200 rfl rfl rfl (c_slices_ContainsFunc_impl_Pair_impl_Pair fu _ _ (Enc.rd_agr hf11 (m.a00 (Enc.rd_lt hf11))) ⟨201, [], rfl, call201, fun w y34 v35 r e hv36 hx => by subst hv36; have m := m.step e; exact c_impl_BoundsOk_1 fu _  hx⟩ hx38) fun w40 e a k m => nn (cI h k rfl (fun hb41 h => ?_) fun hb41 h => ?_)))
   · refine wr (pN 1 k rfl fun a k => nn (wp_ret (rt_then ?_)))
     refine fS h k m rfl rfl
   refine wp_skip (nm_then ?_)
   refine c_cut (fun a w => K 70 [(1, .pointer (some (⟨b14, 0, none⟩ : Addr)))] a ∧ St [] w0 w [([b14], w16)] ∧ d_impl_BoundsOk_J1 fu r1 = some r) ?_ ?_
   · rintro a w61 ⟨k, m, h⟩
     unfold d_impl_BoundsOk_J1 at h
     refine wr (pN 1 k rfl fun a k => nn (wp_seq (wr (sv k rfl (r_fa fa40_6 k rfl rfl) fun a k => sv k rfl (r_ldb t138 m 0 hb15 9 k rfl rfl rfl rfl rfl) fun a k => sv k rfl (r_len (α := Item) hf13 k underlying38 rfl rfl) fun a k => pN 1 k rfl fun a k => nn (wp_block (c_loop (fun n a w => ∃ (units93 : Int) (x94 : Int), K 70 [(3, .int .i64 units93), (54, v9), (55, .int .i64 ((r1.fItems.length : Int))), (56, .int .i64 x94)] a ∧ St [] w0 w [] ∧ d_impl_BoundsOk_L1 fu r1 n units93 x94 = some r) ?_ ?_ fu _ _ ?_))))))
     · rintro a w ⟨_, _, _, _, h⟩
       exact nS h
     · rintro m95 a w92 ⟨units93, x94, k, m, h⟩
       rw [d_impl_BoundsOk_L1_s] at h
       unfold d_impl_BoundsOk_L1_B at h
       refine wr (pN 1 k rfl fun a k => nn (wp_seq (cI h k rfl (fun hb96 h => ?_) fun hb96 h => ?_)))
       · refine wp_skip (nm_then ?_)
         refine wp_seq (wp_block (wr (oE h fun x97 hx98 h => sv k rfl (r_ixa hf13 hx98 k ts38 rfl rfl rfl) fun a k => sv k rfl (r_lde hf13 (m.a00 (Enc.rd_lt hf13)) hx98 ta120 k rfl rfl) fun a k => s_alloc (cs := [.int .i64 0, .int .i64 0, .int .i64 0, .int .i64 0, .int .i64 0, .int .i64 0, .int .i64 0]) m k zeroValue120 rfl rfl rfl rfl rfl fun b99 w101 a k m e hb100 => s_stb (cs' := [.int .i64 x97.fId, .int .i64 x97.fW, .int .i64 x97.fH, .int .i64 x97.fD, .int .i64 x97.fGram, .int .i64 x97.fClass, .int .i64 x97.fCount]) sizeOf120 m 0 hb100 0 k rfl rfl rfl rfl rfl rfl rfl rfl rfl rfl rfl fun w102 a k e m hb103 => nn (wp_seq (wr (sv k rfl (r_ldB ta120 m 0 hb103 0 k rfl rfl rfl rfl rfl rfl) fun a k => oE h fun x104 hx105 h => cE k m call204 rfl rfl rfl (c_impl_ItemOk fu (x97 : Item)  hx105) fun w107 e a k m => ?_))))))
         refine pN 1 k rfl fun a k => nn (cI h k rfl (fun hb108 h => ?_) fun hb108 h => ?_)
         · refine wr (pN 1 k rfl fun a k => nn (wp_ret (rt_then (rt_block (rt_then (rt_then (rt_block (rt_then ?_))))))))
           refine fS h k m rfl rfl
         refine wp_skip (nm_then ?_)
         refine wp_region_lit (pN 1 k rfl fun a k => sv k rfl (r_fa fa120_6 k rfl rfl) fun a k => sv k rfl (r_ldb t13 m 0 hb103 6 k rfl rfl rfl rfl rfl) fun a k => pN 2 k rfl fun a k => wpList_nil (nm_block (nm_then ?_)))
         refine wp_region_lit (pN 2 k rfl fun a k => nn ?_)
         exact ⟨w64 (units93 + x97.fCount), w64 (x94 + 1), k.keep [3, 54, 55, 56] rfl, m.sel [] rfl (by decide), h⟩
       refine wp_exit (ex_then (ex_then (ex_same (nm_then ?_))))
       refine wr (pN 3 k rfl fun a k => nn (wp_ret (fS h k m rfl rfl)))
     exact ⟨0, 0, k.keep [3, 54, 55, 56] rfl, m.sel [] rfl (by decide), h⟩
   refine wr (sv k rfl (r_fa fa40_4 k rfl rfl) fun a k => sv k rfl (r_ldb t137 m 0 hb15 7 k rfl rfl rfl rfl rfl) fun a k => sv k rfl (r_len (α := Typ) hf12 k underlying37 rfl rfl) fun a k => oE h fun x109 hx110 h => cE k m call99 rfl rfl rfl (c_impl_in fu _ _ _  hx110) fun w112 e a k m => pN 2 k rfl fun a k => bsplit (!x109) (fun hb113 => ?_) (fun hb113 => ?_))
   · have h := bif_t hb113 h
     refine rB k 36 rfl hb113 fun k => pN 16 k rfl fun a k => ?_
     have k := k.keep [1, 52] rfl
     refine nn (wp_cond_true (k.ev rfl) (wr (pN 1 k rfl fun a k => nn (wp_ret (rt_then ?_)))))
     refine fS h k m rfl rfl
   have h := bif_f hb113 h
   refine rB k 36 rfl hb113 fun k => sv k rfl (r_fa fa40_4 k rfl rfl) fun a k => sv k rfl (r_ldb t137 m 0 hb15 7 k rfl rfl rfl rfl rfl) fun a k => oE h fun x117 hx118 h => cE k m call184 rfl rfl rfl (c_slices_ContainsFunc_impl_Type_impl_Type fu _ _ (Enc.rd_agr hf12 (m.a00 (Enc.rd_lt hf12))) ⟨202, [], rfl, call202, fun w y114 v115 r e hv116 hx => by subst hv116; have m := m.step e; exact c_impl_BoundsOk_2 fu _  hx⟩ hx118) fun w120 e a k m => pN 2 k rfl fun a k => bsplit (x117) (fun hb121 => ?_) (fun hb121 => ?_)
   · have h := bif_t hb121 h
     refine rB k 41 rfl hb121 fun k => pN 11 k rfl fun a k => ?_
     have k := k.keep [1, 52] rfl
     refine nn (wp_cond_true (k.ev rfl) (wr (pN 1 k rfl fun a k => nn (wp_ret (rt_then ?_)))))
     refine fS h k m rfl rfl
   have h := bif_f hb121 h
   refine rB k 41 rfl hb121 fun k => sv k rfl (r_fa fa40_5 k rfl rfl) fun a k => sv k rfl (r_ldb t13 m 0 hb15 8 k rfl rfl rfl rfl rfl) fun a k => oE h fun x122 hx123 h => cE k m call99 rfl rfl rfl (c_impl_in fu _ _ _  hx123) fun w125 e a k m => pN 3 k rfl fun a k => bsplit (!x122) (fun hb126 => ?_) (fun hb126 => ?_)
   · have h := bif_t hb126 h
     refine rB k 47 rfl hb126 fun k => pN 5 k rfl fun a k => ?_
     have k := k.keep [1, 52] rfl
     refine nn (wp_cond_true (k.ev rfl) (wr (pN 1 k rfl fun a k => nn (wp_ret (rt_then ?_)))))
     refine fS h k m rfl rfl
   have h := bif_f hb126 h
   refine rB k 47 rfl hb126 fun k => sv k rfl (r_fa fa40_6 k rfl rfl) fun a k => sv k rfl (r_ldb t138 m 0 hb15 9 k rfl rfl rfl rfl rfl) fun a k => sv k rfl (r_len (α := Item) hf13 k underlying38 rfl rfl) fun a k => pN 2 k rfl fun a k => ?_
   have k := k.keep [1, 52] rfl
   refine nn (cI h k rfl (fun hb127 h => ?_) fun hb127 h => ?_)
   · refine wr (pN 1 k rfl fun a k => nn (wp_ret (rt_then ?_)))
     refine fS h k m rfl rfl
   refine wp_skip (nm_then ?_)
   exact ⟨k.keep [1] rfl, m.sel [0] rfl (by decide), h⟩
 refine wr (sv k rfl (r_fa fa40_0 k rfl rfl) fun a k => sv k rfl (r_ldb t13 m 0 hb15 0 k rfl rfl rfl rfl rfl) fun a k => oE h fun x128 hx129 h => cE k m call99 rfl rfl rfl (c_impl_in fu _ _ _  hx129) fun w131 e a k m => pN 2 k rfl fun a k => bsplit (!x128) (fun hb132 => ?_) (fun hb132 => ?_))
 · have h := bif_t hb132 h
   refine rB k 10 rfl hb132 fun k => pN 17 k rfl fun a k => nn (wp_cond_true (k.ev rfl) (wr (pN 1 k rfl fun a k => ?_)))
   have k := k.keep [2] rfl
   refine nn (wp_ret (rt_then ?_))
   refine fS h k m rfl rfl
 have h := bif_f hb132 h
 refine rB k 10 rfl hb132 fun k => sv k rfl (r_fa fa40_1 k rfl rfl) fun a k => sv k rfl (r_ldB ta35 m 0 hb15 1 k rfl rfl rfl rfl rfl rfl) fun a k => oE h fun x133 hx134 h => cE k m call199 rfl rfl rfl (c_impl_PalletOk fu (r1.fPallet : Pallet)  hx134) fun w136 e a k m => pN 3 k rfl fun a k => bsplit (!x133) (fun hb137 => ?_) (fun hb137 => ?_)
 · have h := bif_t hb137 h
   refine rB k 16 rfl hb137 fun k => pN 11 k rfl fun a k => nn (wp_cond_true (k.ev rfl) (wr (pN 1 k rfl fun a k => ?_)))
   have k := k.keep [2] rfl
   refine nn (wp_ret (rt_then ?_))
   refine fS h k m rfl rfl
 have h := bif_f hb137 h
 refine rB k 16 rfl hb137 fun k => sv k rfl (r_fa fa40_2 k rfl rfl) fun a k => sv k rfl (r_ldb t13 m 0 hb15 5 k rfl rfl rfl rfl rfl) fun a k => oE h fun x138 hx139 h => cE k m call99 rfl rfl rfl (c_impl_in fu _ _ _  hx139) fun w141 e a k m => pN 3 k rfl fun a k => bsplit (!x138) (fun hb142 => ?_) (fun hb142 => ?_)
 · have h := bif_t hb142 h
   refine rB k 22 rfl hb142 fun k => pN 5 k rfl fun a k => nn (wp_cond_true (k.ev rfl) (wr (pN 1 k rfl fun a k => ?_)))
   have k := k.keep [2] rfl
   refine nn (wp_ret (rt_then ?_))
   refine fS h k m rfl rfl
 have h := bif_f hb142 h
 refine rB k 22 rfl hb142 fun k => sv k rfl (r_fa fa40_3 k rfl rfl) fun a k => sv k rfl (r_ldb t136 m 0 hb15 6 k rfl rfl rfl rfl rfl) fun a k => sv k rfl (r_len (α := Pair) hf11 k underlying36 rfl rfl) fun a k => pN 2 k rfl fun a k => nn (cI h k rfl (fun hb143 h => ?_) fun hb143 h => ?_)
 · refine wr (pN 1 k rfl fun a k => ?_)
   have k := k.keep [2] rfl
   refine nn (wp_ret (rt_then ?_))
   refine fS h k m rfl rfl
 refine wp_skip (nm_then ?_)
 exact ⟨k.keep [1] rfl, m.sel [0] rfl (by decide), h⟩
theorem c_impl_namesOk_1 (fu : Nat) {w0 : World} (q1 : Typ) (x2 : Typ) {b3 : Nat} (hp4 : bx w0 b3 [.int .i64 x2.fId, .int .i64 x2.fW, .int .i64 x2.fH, .int .i64 x2.fD, .int .i64 x2.fTare, .int .i64 x2.fGram, .int .i64 x2.fCost] 92) {r : Bool}
    (h : d_impl_namesOk_1 fu q1 x2 = some r) :
    Calls Tryz.prog 205 #[.agg (Flat.e (q1)).toArray, .pointer (some (⟨b3, 0, none⟩ : Addr))] w0 fun e w => e = .returned (.bool (r)) ∧ Ext [] w0 w := by
 refine enter (vs := [_, _]) func205 rfl ntmps205 rfl fun a k => ?_
 have m := St.start w0
 unfold d_impl_namesOk_1 at h
 refine wr (s_box (cs := [.int .i64 q1.fId, .int .i64 q1.fW, .int .i64 q1.fH, .int .i64 q1.fD, .int .i64 q1.fTare, .int .i64 q1.fGram, .int .i64 q1.fCost]) m k rfl rfl rfl rfl rfl rfl fun b5 w7 a k m e hb6 => pN 1 k rfl fun a k => nn (wr (sv k rfl (r_fa fa92_0 k rfl rfl) fun a k => sv k rfl (r_ldb t13 m 0 hb6 0 k rfl rfl rfl rfl rfl) fun a k => sv k rfl (r_fa fa92_0 k rfl rfl) fun a k => sv k rfl (r_ld1 t13 (r := []) (hp4.at (m.a00 hp4.lt1) 0 1 rfl rfl rfl) k rfl rfl) fun a k => pN 2 k rfl fun a k => nn (wp_ret (fS h k m rfl rfl)))))
theorem c_impl_namesOk_2 (fu : Nat) {w0 : World} (q1 : Item) (x2 : Item) {b3 : Nat} (hp4 : bx w0 b3 [.int .i64 x2.fId, .int .i64 x2.fW, .int .i64 x2.fH, .int .i64 x2.fD, .int .i64 x2.fGram, .int .i64 x2.fClass, .int .i64 x2.fCount] 120) {r : Bool}
    (h : d_impl_namesOk_2 fu q1 x2 = some r) :
    Calls Tryz.prog 206 #[.agg (Flat.e (q1)).toArray, .pointer (some (⟨b3, 0, none⟩ : Addr))] w0 fun e w => e = .returned (.bool (r)) ∧ Ext [] w0 w := by
 refine enter (vs := [_, _]) func206 rfl ntmps206 rfl fun a k => ?_
 have m := St.start w0
 unfold d_impl_namesOk_2 at h
 refine wr (s_box (cs := [.int .i64 q1.fId, .int .i64 q1.fW, .int .i64 q1.fH, .int .i64 q1.fD, .int .i64 q1.fGram, .int .i64 q1.fClass, .int .i64 q1.fCount]) m k rfl rfl rfl rfl rfl rfl fun b5 w7 a k m e hb6 => pN 1 k rfl fun a k => nn (wr (sv k rfl (r_fa fa120_0 k rfl rfl) fun a k => sv k rfl (r_ldb t13 m 0 hb6 0 k rfl rfl rfl rfl rfl) fun a k => sv k rfl (r_fa fa120_0 k rfl rfl) fun a k => sv k rfl (r_ld1 t13 (r := []) (hp4.at (m.a00 hp4.lt1) 0 1 rfl rfl rfl) k rfl rfl) fun a k => pN 2 k rfl fun a k => nn (wp_ret (fS h k m rfl rfl)))))
theorem c_slices_IndexFunc_impl_Item_impl_Item (fu : Nat) {w0 : World} (sv1 : List Item) (f5 : Item → Option Bool) {v2 : Value} {F3 : List Nat} (hp4 : rd w0 F3 [v2] sv1) {v6 : Value} (hp7 : FnOk1 Tryz.prog w0 v6 f5) {r : Int}
    (h : d_slices_IndexFunc_impl_Item_impl_Item fu sv1 f5 = some r) :
    Calls Tryz.prog 190 #[v2, v6] w0 fun e w => e = .returned (.int .i64 r) ∧ Ext [] w0 w := by
 refine enter (vs := [_, _]) func190 rfl ntmps190 rfl fun a k => ?_
 have m := St.start w0
 obtain ⟨fid8, cap9, rfl, hcl10, hcc11⟩ := hp7
 unfold d_slices_IndexFunc_impl_Item_impl_Item at h
 refine wr (pN 1 k rfl fun a k => nn (wp_seq (wr (pN 1 k rfl fun a k => sv k rfl (r_len (α := Item) hp4 k underlying38 rfl rfl) fun a k => pN 1 k rfl fun a k => nn (wp_block (c_loop (fun n a w => ∃ (x32 : Int), K 19 [(0, v2), (1, (.func (.func fid8) #[] cap9.toArray)), (7, .int .i64 ((sv1.length : Int))), (8, .int .i64 x32)] a ∧ St [] w0 w [] ∧ d_slices_IndexFunc_impl_Item_impl_Item_L1 fu sv1 f5 n x32 = some r) ?_ ?_ fu _ _ ?_))))))
 · rintro a w ⟨_, _, _, h⟩
   exact nS h
 · rintro m33 a w31 ⟨x32, k, m, h⟩
   rw [d_slices_IndexFunc_impl_Item_impl_Item_L1_s] at h
   unfold d_slices_IndexFunc_impl_Item_impl_Item_L1_B at h
   refine wr (pN 1 k rfl fun a k => nn (wp_seq (cI h k rfl (fun hb34 h => ?_) fun hb34 h => ?_)))
   · refine wp_skip (nm_then ?_)
     refine wp_seq (wp_block (wr (pN 2 k rfl fun a k => nn (wr (pN 3 k rfl fun a k => oE h fun x35 hx36 h => sv k rfl (r_ixa hp4 hx36 k ts38 rfl rfl rfl) fun a k => sv k rfl (r_lde hp4 (m.a00 (Enc.rd_lt hp4)) hx36 ta120 k rfl rfl) fun a k => oE h fun x37 hx38 h => s_callv k hcl10 rfl rfl rfl rfl rfl rfl (hcc11 _ _ _ _ m.ext rfl hx38) fun e39 w40 hR => ?_)))))
     obtain ⟨rfl, e⟩ := hR
     refine ⟨_, rfl, fun a k => ?_⟩
     have m := m.step e
     refine nn (cI h k rfl (fun hb41 h => ?_) fun hb41 h => ?_)
     · refine wr (pN 2 k rfl fun a k => nn (wp_ret (rt_block (rt_then (rt_then (rt_block (rt_then ?_)))))))
       refine fS h k m rfl rfl
     refine wp_skip (nm_block (nm_then ?_))
     refine wp_region_lit (pN 2 k rfl fun a k => nn ?_)
     exact ⟨w64 (x32 + 1), k.keep [0, 1, 7, 8] rfl, m.sel [] rfl (by decide), h⟩
   refine wp_exit (ex_then (ex_then (ex_same (nm_then ?_))))
   refine wr (pN 1 k rfl fun a k => nn (wp_ret (fS h k m rfl rfl)))
 exact ⟨0, k.keep [0, 1, 7, 8] rfl, m.sel [] rfl (by decide), h⟩
theorem c_slices_ContainsFunc_impl_Item_impl_Item (fu : Nat) {w0 : World} (sv1 : List Item) (f5 : Item → Option Bool) {v2 : Value} {F3 : List Nat} (hp4 : rd w0 F3 [v2] sv1) {v6 : Value} (hp7 : FnOk1 Tryz.prog w0 v6 f5) {r : Bool}
    (h : d_slices_ContainsFunc_impl_Item_impl_Item fu sv1 f5 = some r) :
    Calls Tryz.prog 151 #[v2, v6] w0 fun e w => e = .returned (.bool (r)) ∧ Ext [] w0 w := by
 refine enter (vs := [_, _]) func151 rfl ntmps151 rfl fun a k => ?_
 have m := St.start w0
 obtain ⟨fid8, cap9, rfl, hcl10, hcc11⟩ := hp7
 unfold d_slices_ContainsFunc_impl_Item_impl_Item at h
 refine wr (pN 1 k rfl fun a k => nn (wr (pN 2 k rfl fun a k => oE h fun x14 hx15 h => cE k m call190 rfl rfl rfl (c_slices_IndexFunc_impl_Item_impl_Item fu _ _ (Enc.rd_agr hp4 (m.a00 (Enc.rd_lt hp4))) ⟨_, _, rfl, hcl10, fun w y12 v13 r e => hcc11 w y12 v13 r (m.ext.trans e (by simp))⟩ hx15) fun w17 e a k m => pN 2 k rfl fun a k => nn (wp_ret (fS h k m rfl rfl)))))
theorem c_impl_namesOk_3 (fu : Nat) {w0 : World} (p1 : Pair) (x2 : Request) {v5 : Value} {F6 : List Nat} {v8 : Value} {F9 : List Nat} {v11 : Value} {F12 : List Nat} {b3 : Nat} (hp4 : bx w0 b3 [.int .i64 x2.fWay, .int .i64 x2.fPallet.fW, .int .i64 x2.fPallet.fD, .int .i64 x2.fPallet.fH, .int .i64 x2.fPallet.fGram, .int .i64 x2.fClasses, v5, v8, .int .i64 x2.fMaster, v11] 40) (hp7 : rd w0 F6 [v5] x2.fPairs) (hp10 : rd w0 F9 [v8] x2.fTypes) (hp13 : rd w0 F12 [v11] x2.fItems) {r : Bool}
    (h : d_impl_namesOk_3 fu p1 x2 = some r) :
    Calls Tryz.prog 207 #[.agg (Flat.e (p1)).toArray, .pointer (some (⟨b3, 0, none⟩ : Addr))] w0 fun e w => e = .returned (.bool (r)) ∧ Ext [] w0 w := by
 refine enter (vs := [_, _]) func207 rfl ntmps207 rfl fun a k => ?_
 have m := St.start w0
 unfold d_impl_namesOk_3 at h
 refine wr (s_box (cs := [.int .i64 p1.fA, .int .i64 p1.fB]) m k rfl rfl rfl rfl rfl rfl fun b14 w16 a k m e hb15 => pN 1 k rfl fun a k => nn (wr (sv k rfl (r_fa fa144_0 k rfl rfl) fun a k => sv k rfl (r_ldb t13 m 0 hb15 0 k rfl rfl rfl rfl rfl) fun a k => sv k rfl (r_fa fa40_2 k rfl rfl) fun a k => sv k rfl (r_ld1 t13 (r := []) (hp4.at (m.a00 hp4.lt1) 5 1 rfl rfl rfl) k rfl rfl) fun a k => pN 2 k rfl fun a k => bsplit (decide (p1.fA ≥ x2.fClasses)) (fun hb17 => ?_) (fun hb17 => ?_))))
 · have h := bif_t hb17 h
   refine rB k 9 rfl hb17 fun k => pN 7 k rfl fun a k => nn (wp_ret (fS h k m rfl rfl))
 have h := bif_f hb17 h
 refine rB k 9 rfl hb17 fun k => sv k rfl (r_fa fa144_1 k rfl rfl) fun a k => sv k rfl (r_ldb t13 m 0 hb15 1 k rfl rfl rfl rfl rfl) fun a k => sv k rfl (r_fa fa40_2 k rfl rfl) fun a k => sv k rfl (r_ld1 t13 (r := []) (hp4.at (m.a00 hp4.lt1) 5 1 rfl rfl rfl) k rfl rfl) fun a k => pN 3 k rfl fun a k => nn (wp_ret (fS h k m rfl rfl))
theorem c_impl_namesOk (fu : Nat) {w0 : World} (r1 : Request) {cs2 : List Value} {F3 : List Nat} (hp4 : rd w0 F3 cs2 r1) {r : Bool}
    (h : d_impl_namesOk fu r1 = some r) :
    Calls Tryz.prog 180 #[.agg cs2.toArray] w0 fun e w => e = .returned (.bool (r)) ∧ Ext [] w0 w := by
 refine enter (vs := [_]) func180 rfl ntmps180 rfl fun a k => ?_
 have m := St.start w0
 obtain ⟨v5, F6, v7, F8, v9, F10, rfl, rfl, hf11, hf12, hf13⟩ := hp4
 unfold d_impl_namesOk at h
 refine wr (s_box (cs := [.int .i64 r1.fWay, .int .i64 r1.fPallet.fW, .int .i64 r1.fPallet.fD, .int .i64 r1.fPallet.fH, .int .i64 r1.fPallet.fGram, .int .i64 r1.fClasses, v5, v7, .int .i64 r1.fMaster, v9]) m k rfl rfl rfl rfl rfl rfl fun b14 w16 a k m e hb15 => pN 1 k rfl fun a k => nn (wp_seq (wr (sv k rfl (r_fa fa40_4 k rfl rfl) fun a k => sv k rfl (r_ldb t137 m 0 hb15 7 k rfl rfl rfl rfl rfl) fun a k => sv k rfl (r_len (α := Typ) hf12 k underlying37 rfl rfl) fun a k => pN 1 k rfl fun a k => nn (wp_block (c_loop (fun n a w => ∃ (x63 : Int), K 59 [(1, .pointer (some (⟨b14, 0, none⟩ : Addr))), (10, v7), (11, .int .i64 ((r1.fTypes.length : Int))), (12, .int .i64 x63)] a ∧ St [] w0 w [([b14], w16)] ∧ d_impl_namesOk_L2 fu r1 n x63 = some r) ?_ ?_ fu _ _ ?_))))))
 · rintro a w ⟨_, _, _, h⟩
   exact nS h
 · rintro m64 a w62 ⟨x63, k, m, h⟩
   rw [d_impl_namesOk_L2_s] at h
   unfold d_impl_namesOk_L2_B at h
   refine wr (pN 1 k rfl fun a k => nn (wp_seq (cI h k rfl (fun hb65 h => ?_) fun hb65 h => ?_)))
   · refine wp_skip (nm_then ?_)
     refine wp_seq (wp_block (wr (pN 1 k rfl fun a k => oE h fun x66 hx67 h => sv k rfl (r_ixa hf12 hx67 k ts37 rfl rfl rfl) fun a k => sv k rfl (r_lde hf12 (m.a00 (Enc.rd_lt hf12)) hx67 ta92 k rfl rfl) fun a k => s_alloc (cs := [.int .i64 0, .int .i64 0, .int .i64 0, .int .i64 0, .int .i64 0, .int .i64 0, .int .i64 0]) m k zeroValue92 rfl rfl rfl rfl rfl fun b68 w70 a k m e hb69 => pN 1 k rfl fun a k => s_stb (cs' := [.int .i64 x66.fId, .int .i64 x66.fW, .int .i64 x66.fH, .int .i64 x66.fD, .int .i64 x66.fTare, .int .i64 x66.fGram, .int .i64 x66.fCost]) sizeOf92 m 0 hb69 0 k rfl rfl rfl rfl rfl rfl rfl rfl rfl rfl rfl fun w71 a k e m hb72 => nn (wr (sv k rfl (r_fa fa40_4 k rfl rfl) fun a k => sv k rfl (r_ldb t137 m 1 hb15 7 k rfl rfl rfl rfl rfl) fun a k => pN 1 k rfl fun a k => oE h fun x73 hx74 h => ?_)))))
     refine s_slTo hf12 hx74 k ts37 rfl rfl rfl rfl rfl rfl fun v75 a k hf76 => pN 1 k rfl fun a k => oE h fun x81 hx82 h => cE k m call184 rfl rfl rfl (c_slices_ContainsFunc_impl_Type_impl_Type fu _ _ (Enc.rd_agr hf76 (m.a00 (Enc.rd_lt hf76))) ⟨205, [.pointer (some (⟨b68, 0, none⟩ : Addr))], rfl, call205, fun w y78 v79 r e hv80 hx => by subst hv80; have m := m.step e; exact c_impl_namesOk_1 fu _ _ (hb72.agr (m.a 0 rfl) (by simp)) hx⟩ hx82) fun w84 e a k m => nn (cI h k rfl (fun hb85 h => ?_) fun hb85 h => ?_)
     · refine wr (pN 1 k rfl fun a k => nn (wp_ret (rt_block (rt_then (rt_then (rt_block (rt_then ?_)))))))
       refine fS h k m rfl rfl
     refine wp_skip (nm_block (nm_then ?_))
     refine wp_region_lit (pN 2 k rfl fun a k => nn ?_)
     exact ⟨w64 (x63 + 1), k.keep [1, 10, 11, 12] rfl, m.sel [1] rfl (by decide), h⟩
   refine wp_exit (ex_then (ex_then (ex_same (nm_then ?_))))
   refine wp_seq (wr (sv k rfl (r_fa fa40_6 k rfl rfl) fun a k => sv k rfl (r_ldb t138 m 0 hb15 9 k rfl rfl rfl rfl rfl) fun a k => sv k rfl (r_len (α := Item) hf13 k underlying38 rfl rfl) fun a k => pN 1 k rfl fun a k => nn (wp_block (c_loop (fun n a w => ∃ (x178 : Int), K 59 [(1, .pointer (some (⟨b14, 0, none⟩ : Addr))), (25, v9), (26, .int .i64 ((r1.fItems.length : Int))), (27, .int .i64 x178)] a ∧ St [] w0 w [([b14], w16)] ∧ d_impl_namesOk_L1 fu r1 n x178 = some r) ?_ ?_ fu _ _ ?_))))
   · rintro a w ⟨_, _, _, h⟩
     exact nS h
   · rintro m179 a w177 ⟨x178, k, m, h⟩
     rw [d_impl_namesOk_L1_s] at h
     unfold d_impl_namesOk_L1_B at h
     refine wr (pN 1 k rfl fun a k => nn (wp_seq (cI h k rfl (fun hb180 h => ?_) fun hb180 h => ?_)))
     · refine wp_skip (nm_then ?_)
       refine c_cut (fun a w => K 59 [(1, .pointer (some (⟨b14, 0, none⟩ : Addr))), (25, v9), (26, .int .i64 ((r1.fItems.length : Int))), (27, .int .i64 x178)] a ∧ St [] w0 w [([b14], w16)] ∧ d_impl_namesOk_J1 fu (d_impl_namesOk_L1 fu r1 m179) x178 = some r) ?_ ?_
       · rintro a w202 ⟨k, m, h⟩
         unfold d_impl_namesOk_J1 at h
         refine wp_region_lit (pN 2 k rfl fun a k => nn ?_)
         exact ⟨w64 (x178 + 1), k.keep [1, 25, 26, 27] rfl, m.sel [0] rfl (by decide), h⟩
       refine wp_block (wr (pN 1 k rfl fun a k => oE h fun x203 hx204 h => sv k rfl (r_ixa hf13 hx204 k ts38 rfl rfl rfl) fun a k => sv k rfl (r_lde hf13 (m.a00 (Enc.rd_lt hf13)) hx204 ta120 k rfl rfl) fun a k => s_alloc (cs := [.int .i64 0, .int .i64 0, .int .i64 0, .int .i64 0, .int .i64 0, .int .i64 0, .int .i64 0]) m k zeroValue120 rfl rfl rfl rfl rfl fun b205 w207 a k m e hb206 => pN 1 k rfl fun a k => s_stb (cs' := [.int .i64 x203.fId, .int .i64 x203.fW, .int .i64 x203.fH, .int .i64 x203.fD, .int .i64 x203.fGram, .int .i64 x203.fClass, .int .i64 x203.fCount]) sizeOf120 m 0 hb206 0 k rfl rfl rfl rfl rfl rfl rfl rfl rfl rfl rfl fun w208 a k e m hb209 => nn (wr (sv k rfl (r_fa fa120_5 k rfl rfl) fun a k => sv k rfl (r_ldb t13 m 0 hb209 5 k rfl rfl rfl rfl rfl) fun a k => ?_))))
       refine sv k rfl (r_fa fa40_2 k rfl rfl) fun a k => sv k rfl (r_ldb t13 m 1 hb15 5 k rfl rfl rfl rfl rfl) fun a k => pN 2 k rfl fun a k => bsplit (decide (x203.fClass ≥ r1.fClasses)) (fun hb210 => ?_) (fun hb210 => ?_)
       · have h := bif_t hb210 h
         refine rB k 37 rfl hb210 fun k => pN 7 k rfl fun a k => nn (wp_cond_true (k.ev rfl) (wr (pN 1 k rfl fun a k => nn (wp_ret (rt_block (rt_then (rt_then (rt_block (rt_then ?_)))))))))
         refine fS h k m rfl rfl
       have h := bif_f hb210 h
       refine rB k 37 rfl hb210 fun k => sv k rfl (r_fa fa40_6 k rfl rfl) fun a k => sv k rfl (r_ldb t138 m 1 hb15 9 k rfl rfl rfl rfl rfl) fun a k => pN 1 k rfl fun a k => oE h fun x211 hx212 h => s_slTo hf13 hx212 k ts38 rfl rfl rfl rfl rfl rfl fun v213 a k hf214 => pN 1 k rfl fun a k => oE h fun x219 hx220 h => cE k m call151 rfl rfl rfl (c_slices_ContainsFunc_impl_Item_impl_Item fu _ _ (Enc.rd_agr hf214 (m.a00 (Enc.rd_lt hf214))) ⟨206, [.pointer (some (⟨b205, 0, none⟩ : Addr))], rfl, call206, fun w y216 v217 r e hv218 hx => by subst hv218; have m := m.step e; exact c_impl_namesOk_2 fu _ _ (hb209.agr (m.a 0 rfl) (by simp)) hx⟩ hx220) fun w222 e a k m => pN 1 k rfl fun a k => nn (cI h k rfl (fun hb223 h => ?_) fun hb223 h => ?_)
       · refine wr (pN 1 k rfl fun a k => nn (wp_ret (rt_block (rt_then (rt_then (rt_block (rt_then ?_)))))))
         refine fS h k m rfl rfl
       refine wp_skip (nm_block (nm_then ?_))
       exact ⟨k.keep [1, 25, 26, 27] rfl, m.sel [1] rfl (by decide), h⟩
     refine wp_exit (ex_then (ex_then (ex_same (nm_then ?_))))
     refine wr (sv k rfl (r_ldB ta40 m 0 hb15 0 k rfl rfl rfl rfl rfl rfl) fun a k => oE h fun x224 hx225 h => cE k m call148 rfl rfl rfl (c_impl_MasterOf fu _ (show rd _ _ [.int .i64 r1.fWay, .int .i64 r1.fPallet.fW, .int .i64 r1.fPallet.fD, .int .i64 r1.fPallet.fH, .int .i64 r1.fPallet.fGram, .int .i64 r1.fClasses, v5, v7, .int .i64 r1.fMaster, v9] (r1 : Request) from ⟨_, _, _, _, _, _, rfl, rfl, (Enc.rd_agr hf11 (m.a00 (Enc.rd_lt hf11))), (Enc.rd_agr hf12 (m.a00 (Enc.rd_lt hf12))), (Enc.rd_agr hf13 (m.a00 (Enc.rd_lt hf13)))⟩) hx225) fun w227 e a k m => pN 3 k rfl fun a k => s_alloc (cs := [.int .i64 0, .int .i64 0, .int .i64 0, .int .i64 0, .int .i64 0, .int .i64 0, .int .i64 0]) m k zeroValue92 rfl rfl rfl rfl rfl fun b228 w230 a k m e hb229 => ?_)
     refine s_stb (cs' := [.int .i64 x224.1.fId, .int .i64 x224.1.fW, .int .i64 x224.1.fH, .int .i64 x224.1.fD, .int .i64 x224.1.fTare, .int .i64 x224.1.fGram, .int .i64 x224.1.fCost]) sizeOf92 m 0 hb229 0 k rfl rfl rfl rfl rfl rfl rfl rfl rfl rfl rfl fun w231 a k e m hb232 => pN 1 k rfl fun a k => nn (wr (pN 2 k rfl fun a k => bsplit (x224.2) (fun hb233 => ?_) (fun hb233 => ?_)))
     · have h := bif_t hb233 h
       refine rB k 52 rfl hb233 fun k => sv k rfl (r_fa fa40_3 k rfl rfl) fun a k => sv k rfl (r_ldb t136 m 1 hb15 6 k rfl rfl rfl rfl rfl) fun a k => pN 1 k rfl fun a k => oE h fun x237 hx238 h => cE k m call200 rfl rfl rfl (c_slices_ContainsFunc_impl_Pair_impl_Pair fu _ _ (Enc.rd_agr hf11 (m.a00 (Enc.rd_lt hf11))) ⟨207, [.pointer (some (⟨b14, 0, none⟩ : Addr))], rfl, call207, fun w y234 v235 r e hv236 hx => by subst hv236; have m := m.step e; exact c_impl_namesOk_3 fu _ _ (hb15.agr (m.a 1 rfl) (by simp)) (Enc.rd_agr hf11 (m.a00 (Enc.rd_lt hf11))) (Enc.rd_agr hf12 (m.a00 (Enc.rd_lt hf12))) (Enc.rd_agr hf13 (m.a00 (Enc.rd_lt hf13))) hx⟩ hx238) fun w240 e a k m => pN 3 k rfl fun a k => nn (wp_ret (fS h k m rfl rfl))
     have h := bif_f hb233 h
     refine rB k 52 rfl hb233 fun k => pN 7 k rfl fun a k => nn (wp_ret (fS h k m rfl rfl))
   exact ⟨0, k.keep [1, 25, 26, 27] rfl, m.sel [0] rfl (by decide), h⟩
 exact ⟨0, k.keep [1, 10, 11, 12] rfl, m.sel [0] rfl (by decide), h⟩
theorem c_slices_Index_impl_Pair_impl_Pair (fu : Nat) {w0 : World} (sv1 : List Pair) (v5 : Pair) {v2 : Value} {F3 : List Nat} (hp4 : rd w0 F3 [v2] sv1) {r : Int}
    (h : d_slices_Index_impl_Pair_impl_Pair fu sv1 v5 = some r) :
    Calls Tryz.prog 226 #[v2, .agg (Flat.e (v5)).toArray] w0 fun e w => e = .returned (.int .i64 r) ∧ Ext [] w0 w := by
 refine enter (vs := [_, _]) func226 rfl ntmps226 rfl fun a k => ?_
 have m := St.start w0
 unfold d_slices_Index_impl_Pair_impl_Pair at h
 refine wr (s_box (cs := [.int .i64 v5.fA, .int .i64 v5.fB]) m k rfl rfl rfl rfl rfl rfl fun b6 w8 a k m e hb7 => pN 1 k rfl fun a k => nn (wp_seq (wr (pN 1 k rfl fun a k => sv k rfl (r_len (α := Pair) hp4 k underlying36 rfl rfl) fun a k => pN 1 k rfl fun a k => nn (wp_block (c_loop (fun n a w => ∃ (x23 : Int), K 19 [(0, v2), (3, .pointer (some (⟨b6, 0, none⟩ : Addr))), (7, .int .i64 ((sv1.length : Int))), (8, .int .i64 x23)] a ∧ St [] w0 w [([b6], w8)] ∧ d_slices_Index_impl_Pair_impl_Pair_L1 fu sv1 v5 n x23 = some r) ?_ ?_ fu _ _ ?_))))))
 · rintro a w ⟨_, _, _, h⟩
   exact nS h
 · rintro m24 a w22 ⟨x23, k, m, h⟩
   rw [d_slices_Index_impl_Pair_impl_Pair_L1_s] at h
   unfold d_slices_Index_impl_Pair_impl_Pair_L1_B at h
   refine wr (pN 1 k rfl fun a k => nn (wp_seq (cI h k rfl (fun hb25 h => ?_) fun hb25 h => ?_)))
   · refine wp_skip (nm_then ?_)
     refine wp_seq (wp_block (wr (pN 2 k rfl fun a k => nn (wp_seq (d_go [] mixo m rfl fun w26 hMd => ?_)))))
     have m := hMd
     have s := Ext.refl ([] : List Nat) w26
     refine dt k 0 rfl (by kernel_rfl) rfl s (fun _ _ _ => id) (fun w s => r_ldA ta144 (hb7.at ((hMd.step s).a 0 rfl) 0 2 rfl rfl rfl) rfl k rfl rfl) fun a k => dp k 1 rfl (by kernel_rfl) rfl s (fun _ _ _ => id) rfl fun a k => dp k 2 rfl (by kernel_rfl) rfl s (fun _ _ _ => id) rfl fun a k => oE h fun x27 hx28 h => dt k 3 rfl (by kernel_rfl) rfl s (fun _ _ _ => id) (fun w s => r_ixa hp4 hx28 k ts36 rfl rfl rfl) fun a k => dt k 4 rfl (by kernel_rfl) rfl s (fun _ _ _ => id) (fun w s => r_lde hp4 ((hMd.step s).a00 (Enc.rd_lt hp4)) hx28 ta144 k rfl rfl) fun a k => dt k 5 rfl (by kernel_rfl) rfl s (fun _ _ _ => id) (fun w s => r_eqs seq144 (x := v5) (y := x27) k rfl rfl rfl rfl rfl) fun a k => d_done (by kernel_rfl) ((nm_then ?_))
     refine cI h k rfl (fun hb29 h => ?_) fun hb29 h => ?_
     · refine wr (pN 2 k rfl fun a k => nn (wp_ret (rt_block (rt_then (rt_then (rt_block (rt_then ?_)))))))
       refine fS h k m rfl rfl
     refine wp_skip (nm_block (nm_then ?_))
     refine wp_region_lit (pN 2 k rfl fun a k => nn ?_)
     exact ⟨w64 (x23 + 1), k.keep [0, 3, 7, 8] rfl, m.sel [0] rfl (by decide), h⟩
   refine wp_exit (ex_then (ex_then (ex_same (nm_then ?_))))
   refine wr (pN 1 k rfl fun a k => nn (wp_ret (fS h k m rfl rfl)))
 exact ⟨0, k.keep [0, 3, 7, 8] rfl, m.sel [0] rfl (by decide), h⟩
theorem c_slices_Contains_impl_Pair_impl_Pair (fu : Nat) {w0 : World} (sv1 : List Pair) (v5 : Pair) {v2 : Value} {F3 : List Nat} (hp4 : rd w0 F3 [v2] sv1) {r : Bool}
    (h : d_slices_Contains_impl_Pair_impl_Pair fu sv1 v5 = some r) :
    Calls Tryz.prog 211 #[v2, .agg (Flat.e (v5)).toArray] w0 fun e w => e = .returned (.bool (r)) ∧ Ext [] w0 w := by
 refine enter (vs := [_, _]) func211 rfl ntmps211 rfl fun a k => ?_
 have m := St.start w0
 unfold d_slices_Contains_impl_Pair_impl_Pair at h
 refine wr (s_box (cs := [.int .i64 v5.fA, .int .i64 v5.fB]) m k rfl rfl rfl rfl rfl rfl fun b6 w8 a k m e hb7 => pN 1 k rfl fun a k => nn (wr (pN 1 k rfl fun a k => sv k rfl (r_ldB ta144 m 0 hb7 0 k rfl rfl rfl rfl rfl rfl) fun a k => oE h fun x9 hx10 h => cE k m call226 rfl rfl rfl (c_slices_Index_impl_Pair_impl_Pair fu _ (v5 : Pair) (Enc.rd_agr hp4 (m.a00 (Enc.rd_lt hp4))) hx10) fun w12 e a k m => pN 2 k rfl fun a k => nn (wp_ret (fS h k m rfl rfl)))))
theorem c_impl_Beside (fu : Nat) {w0 : World} (pairs1 : List Pair) (a5 : Int) (b6 : Int) {v2 : Value} {F3 : List Nat} (hp4 : rd w0 F3 [v2] pairs1) {r : Bool}
    (h : d_impl_Beside fu pairs1 a5 b6 = some r) :
    Calls Tryz.prog 192 #[v2, .int .i64 a5, .int .i64 b6] w0 fun e w => e = .returned (.bool (r)) ∧ Ext [] w0 w := by
 refine enter (vs := [_, _, _]) func192 rfl ntmps192 rfl fun a k => ?_
 have m := St.start w0
 unfold d_impl_Beside at h
 refine wr (pN 1 k rfl fun a k => nn (wr (pN 3 k rfl fun a k => sv k rfl (r_build bt144 k (ps := [(0, .tmp 8), (1, .tmp 9)]) rfl rfl rfl) fun a k => oE h fun x7 hx8 h => cE k m call211 rfl rfl rfl (c_slices_Contains_impl_Pair_impl_Pair fu _ (((⟨a5, b6⟩ : Pair)) : Pair) (Enc.rd_agr hp4 (m.a00 (Enc.rd_lt hp4))) hx8) fun w10 e a k m => pN 1 k rfl fun a k => nn (wp_ret (fS h k m rfl rfl)))))
theorem c_impl_TableOk (fu : Nat) {w0 : World} (pairs1 : List Pair) (classes5 : Int) {v2 : Value} {F3 : List Nat} (hp4 : rd w0 F3 [v2] pairs1) {r : Bool}
    (h : d_impl_TableOk fu pairs1 classes5 = some r) :
    Calls Tryz.prog 181 #[v2, .int .i64 classes5] w0 fun e w => e = .returned (.bool (r)) ∧ Ext [] w0 w := by
 refine enter (vs := [_, _]) func181 rfl ntmps181 rfl fun a k => ?_
 have m := St.start w0
 unfold d_impl_TableOk at h
 refine wr (pN 1 k rfl fun a k => nn (wp_seq (wr (pN 1 k rfl fun a k => oE h fun x6 hx7 h => cE k m call99 rfl rfl rfl (c_impl_in fu _ _ _  hx7) fun w9 e a k m => pN 1 k rfl fun a k => nn (cI h k rfl (fun hb10 h => ?_) fun hb10 h => ?_)))))
 · refine wr (pN 1 k rfl fun a k => nn (wp_ret (rt_then ?_)))
   refine fS h k m rfl rfl
 refine wp_skip (nm_then ?_)
 refine wp_seq (wr (pN 2 k rfl fun a k => nn (wp_block (c_loop (fun n a w => ∃ (x99 : Int), K 34 [(0, v2), (1, .int .i64 classes5), (10, .int .i64 classes5), (11, .int .i64 x99)] a ∧ St [] w0 w [] ∧ d_impl_TableOk_L2 fu pairs1 classes5 n x99 = some r) ?_ ?_ fu _ _ ?_))))
 · rintro a w ⟨_, _, _, h⟩
   exact nS h
 · rintro m100 a w98 ⟨x99, k, m, h⟩
   rw [d_impl_TableOk_L2_s] at h
   unfold d_impl_TableOk_L2_B at h
   refine wr (pN 1 k rfl fun a k => nn (wp_seq (cI h k rfl (fun hb101 h => ?_) fun hb101 h => ?_)))
   · refine wp_skip (nm_then ?_)
     refine wp_seq (wp_block (wr (pN 2 k rfl fun a k => nn (wp_seq (wr (pN 3 k rfl fun a k => oE h fun x102 hx103 h => cE k m call192 rfl rfl rfl (c_impl_Beside fu _ _ _ (Enc.rd_agr hp4 (m.a00 (Enc.rd_lt hp4))) hx103) fun w105 e a k m => pN 1 k rfl fun a k => nn (cI h k rfl (fun hb106 h => ?_) fun hb106 h => ?_)))))))
     · refine wr (pN 1 k rfl fun a k => nn (wp_ret (rt_then (rt_block (rt_then (rt_then (rt_block (rt_then ?_))))))))
       refine fS h k m rfl rfl
     refine wp_skip (nm_then ?_)
     refine wr (pN 2 k rfl fun a k => nn (wp_block (c_loop (fun n a w => ∃ (x131 : Int), K 34 [(0, v2), (1, .int .i64 classes5), (5, .int .i64 x99), (10, .int .i64 classes5), (11, .int .i64 x99), (19, .int .i64 classes5), (20, .int .i64 x131)] a ∧ St [] w0 w [] ∧ d_impl_TableOk_L1 fu (d_impl_TableOk_L2 fu pairs1 classes5 m100) pairs1 classes5 x99 n x131 = some r) ?_ ?_ fu _ _ ?_)))
     · rintro a w ⟨_, _, _, h⟩
       exact nS h
     · rintro m132 a w130 ⟨x131, k, m, h⟩
       rw [d_impl_TableOk_L1_s] at h
       unfold d_impl_TableOk_L1_B at h
       refine wr (pN 1 k rfl fun a k => nn (wp_seq (cI h k rfl (fun hb133 h => ?_) fun hb133 h => ?_)))
       · refine wp_skip (nm_then ?_)
         refine wp_seq (wp_block (wr (pN 2 k rfl fun a k => nn (wr (pN 3 k rfl fun a k => oE h fun x134 hx135 h => cE k m call192 rfl rfl rfl (c_impl_Beside fu _ _ _ (Enc.rd_agr hp4 (m.a00 (Enc.rd_lt hp4))) hx135) fun w137 e a k m => pN 3 k rfl fun a k => oE h fun x138 hx139 h => cE k m call192 rfl rfl rfl (c_impl_Beside fu _ _ _ (Enc.rd_agr hp4 (m.a00 (Enc.rd_lt hp4))) hx139) fun w141 e a k m => sv k rfl (r_neb k underlying4 rfl rfl rfl) fun a k => nn (cI h k rfl (fun hb142 h => ?_) fun hb142 h => ?_))))))
         · refine wr (pN 1 k rfl fun a k => nn (wp_ret (rt_block (rt_then (rt_then (rt_block (rt_block (rt_then (rt_then (rt_block (rt_then ?_)))))))))))
           refine fS h k m rfl rfl
         refine wp_skip (nm_block (nm_then ?_))
         refine wp_region_lit (pN 2 k rfl fun a k => nn ?_)
         exact ⟨w64 (x131 + 1), k.keep [0, 1, 5, 10, 11, 19, 20] rfl, m.sel [] rfl (by decide), h⟩
       refine wp_exit (ex_then (ex_then (ex_same (nm_block (nm_then ?_)))))
       refine wp_region_lit (pN 2 k rfl fun a k => nn ?_)
       exact ⟨w64 (x99 + 1), k.keep [0, 1, 10, 11] rfl, m.sel [] rfl (by decide), h⟩
     exact ⟨0, k.keep [0, 1, 5, 10, 11, 19, 20] rfl, m.sel [] rfl (by decide), h⟩
   refine wp_exit (ex_then (ex_then (ex_same (nm_then ?_))))
   refine wr (pN 1 k rfl fun a k => nn (wp_ret (fS h k m rfl rfl)))
 exact ⟨0, k.keep [0, 1, 10, 11] rfl, m.sel [] rfl (by decide), h⟩
theorem c_slices_Sort_int_int (fu : Nat) {w0 : World} (x1 : List Int) {v2 : Value} {F3 : List Nat} (hp4 : ow w0 F3 [v2] x1) {r : List Int}
    (h : d_slices_Sort_int_int fu x1 = some r) :
    Calls Tryz.prog 164 #[v2] w0 fun e w => ∃ H : List Nat, e = .returned (.tuple #[]) ∧ Ext F3 w0 w ∧ (∀ b ∈ H, b ∈ F3 ∨ w0.heap.size ≤ b) ∧ ow w H [v2] r :=
  (c_sortInt (fun blk off cap zs w => Tryz.slices_Sort_int blk off cap zs w) (fun p cap w => Tryz.slices_Sort_int_none p cap w) x1 hp4 h).mono fun e w ⟨h1, h2, h3⟩ => ⟨_, h1, h2, fun b hb => .inl hb, h3⟩

theorem c_impl_Fits (fu : Nat) {w0 : World} (x1 : Item) (t2 : Typ)  {r : Bool}
    (h : d_impl_Fits fu x1 t2 = some r) :
    Calls Tryz.prog 183 #[.agg (Flat.e (x1)).toArray, .agg (Flat.e (t2)).toArray] w0 fun e w => e = .returned (.bool (r)) ∧ Ext [] w0 w := by
 refine enter (vs := [_, _]) func183 rfl ntmps183 rfl fun a k => ?_
 have m := St.start w0
 unfold d_impl_Fits at h
 refine wr (s_box (cs := [.int .i64 x1.fId, .int .i64 x1.fW, .int .i64 x1.fH, .int .i64 x1.fD, .int .i64 x1.fGram, .int .i64 x1.fClass, .int .i64 x1.fCount]) m k rfl rfl rfl rfl rfl rfl fun b3 w5 a k m e hb4 => s_box (cs := [.int .i64 t2.fId, .int .i64 t2.fW, .int .i64 t2.fH, .int .i64 t2.fD, .int .i64 t2.fTare, .int .i64 t2.fGram, .int .i64 t2.fCost]) m k rfl rfl rfl rfl rfl rfl fun b6 w8 a k m e hb7 => pN 1 k rfl fun a k => nn ?_)
 refine c_cut (fun a w => ∃ (a39 : List Int) (v40 : Value) (F41 : List Nat) (u42 : World) (b44 : List Int) (v45 : Value) (F46 : List Nat) (u47 : World), K 57 [(2, .pointer (some (⟨b3, 0, none⟩ : Addr))), (3, .pointer (some (⟨b6, 0, none⟩ : Addr))), (5, v40), (6, v45)] a ∧ St [] w0 w [([b3], w5), ([b6], w8), (F41, u42), (F46, u47)] ∧ ow u42 F41 [v40] a39 ∧ ow u47 F46 [v45] b44 ∧ d_impl_Fits_J1 fu x1 t2 a39 b44 = some r) ?_ ?_
 · rintro a w38 ⟨a39, v40, F41, u42, b44, v45, F46, u47, k, m, hf43, hf48, h⟩
   unfold d_impl_Fits_J1 at h
   refine wr (pN 1 k rfl fun a k => oE h fun x49 hx50 h => s_call k call164 rfl rfl rfl rfl rfl (c_slices_Sort_int_int fu _ (Enc.ow_agr hf43 (m.a 2 rfl)) hx50) fun e51 w52 hR => ?_)
   obtain ⟨F55, rfl, e, hlo54, hf53⟩ := hR
   refine ⟨_, rfl, fun a k => ?_⟩
   have m := m.mut 2 rfl e _ (fun b hb => ⟨hlo54 b hb, Enc.rd_lt (Enc.ow_rd hf53) b hb⟩) (Enc.ow_nd hf53)
   refine nn (wr (pN 1 k rfl fun a k => oE h fun x56 hx57 h => s_call k call164 rfl rfl rfl rfl rfl (c_slices_Sort_int_int fu _ (Enc.ow_agr hf48 (m.a 3 rfl)) hx57) fun e58 w59 hR => ?_))
   obtain ⟨F62, rfl, e, hlo61, hf60⟩ := hR
   refine ⟨_, rfl, fun a k => ?_⟩
   have m := m.mut 3 rfl e _ (fun b hb => ⟨hlo61 b hb, Enc.rd_lt (Enc.ow_rd hf60) b hb⟩) (Enc.ow_nd hf60)
   refine nn (wp_seq (d_go [] mixo m rfl fun w63 hMd => ?_))
   have m := hMd
   have s := Ext.refl ([] : List Nat) w63
   refine dp k 0 rfl (by kernel_rfl) rfl s (fun _ _ _ => id) rfl fun a k => oE h fun x64 hx65 h => dt k 1 rfl (by kernel_rfl) rfl s (fun _ _ _ => id) (fun w s => r_ixa (Enc.ow_rd hf53) hx65 k ts29 rfl rfl rfl) fun a k => dt k 2 rfl (by kernel_rfl) rfl s (fun _ _ _ => id) (fun w s => r_lde1 (Enc.ow_rd hf53) ((hMd.step s).a 2 rfl) hx65 0 t13 k rfl rfl rfl rfl) fun a k => dp k 3 rfl (by kernel_rfl) rfl s (fun _ _ _ => id) rfl fun a k => oE h fun x66 hx67 h => dt k 4 rfl (by kernel_rfl) rfl s (fun _ _ _ => id) (fun w s => r_ixa (Enc.ow_rd hf60) hx67 k ts29 rfl rfl rfl) fun a k => dt k 5 rfl (by kernel_rfl) rfl s (fun _ _ _ => id) (fun w s => r_lde1 (Enc.ow_rd hf60) ((hMd.step s).a 3 rfl) hx67 0 t13 k rfl rfl rfl rfl) fun a k => dp k 6 rfl (by kernel_rfl) rfl s (fun _ _ _ => id) rfl fun a k => ?_
   refine dp k 7 rfl (by kernel_rfl) rfl s (fun _ _ _ => id) rfl fun a k => bsplit (decide (x64 ≤ x66)) (fun hb68 => ?_) (fun hb68 => ?_)
   · have h := bif_t hb68 h
     refine rB k 32 rfl hb68 fun k => dp k 8 rfl (by kernel_rfl) rfl s (fun _ _ _ => id) rfl fun a k => oE h fun x69 hx70 h => dt k 9 rfl (by kernel_rfl) rfl s (fun _ _ _ => id) (fun w s => r_ixa (Enc.ow_rd hf53) hx70 k ts29 rfl rfl rfl) fun a k => dt k 10 rfl (by kernel_rfl) rfl s (fun _ _ _ => id) (fun w s => r_lde1 (Enc.ow_rd hf53) ((hMd.step s).a 2 rfl) hx70 0 t13 k rfl rfl rfl rfl) fun a k => dp k 11 rfl (by kernel_rfl) rfl s (fun _ _ _ => id) rfl fun a k => oE h fun x71 hx72 h => dt k 12 rfl (by kernel_rfl) rfl s (fun _ _ _ => id) (fun w s => r_ixa (Enc.ow_rd hf60) hx72 k ts29 rfl rfl rfl) fun a k => dt k 13 rfl (by kernel_rfl) rfl s (fun _ _ _ => id) (fun w s => r_lde1 (Enc.ow_rd hf60) ((hMd.step s).a 3 rfl) hx72 0 t13 k rfl rfl rfl rfl) fun a k => dp k 14 rfl (by kernel_rfl) rfl s (fun _ _ _ => id) rfl fun a k => ?_
     refine dp k 15 rfl (by kernel_rfl) rfl s (fun _ _ _ => id) rfl fun a k => dp k 16 rfl (by kernel_rfl) rfl s (fun _ _ _ => id) rfl fun a k => bsplit (decide (x69 ≤ x71)) (fun hb73 => ?_) (fun hb73 => ?_)
     · have h := bif_t hb73 h
       refine rB k 41 rfl hb73 fun k => dp k 17 rfl (by kernel_rfl) rfl s (fun _ _ _ => id) rfl fun a k => oE h fun x74 hx75 h => dt k 18 rfl (by kernel_rfl) rfl s (fun _ _ _ => id) (fun w s => r_ixa (Enc.ow_rd hf53) hx75 k ts29 rfl rfl rfl) fun a k => dt k 19 rfl (by kernel_rfl) rfl s (fun _ _ _ => id) (fun w s => r_lde1 (Enc.ow_rd hf53) ((hMd.step s).a 2 rfl) hx75 0 t13 k rfl rfl rfl rfl) fun a k => dp k 20 rfl (by kernel_rfl) rfl s (fun _ _ _ => id) rfl fun a k => oE h fun x76 hx77 h => dt k 21 rfl (by kernel_rfl) rfl s (fun _ _ _ => id) (fun w s => r_ixa (Enc.ow_rd hf60) hx77 k ts29 rfl rfl rfl) fun a k => dt k 22 rfl (by kernel_rfl) rfl s (fun _ _ _ => id) (fun w s => r_lde1 (Enc.ow_rd hf60) ((hMd.step s).a 3 rfl) hx77 0 t13 k rfl rfl rfl rfl) fun a k => dp k 23 rfl (by kernel_rfl) rfl s (fun _ _ _ => id) rfl fun a k => ?_
       refine dp k 24 rfl (by kernel_rfl) rfl s (fun _ _ _ => id) rfl fun a k => dp k 25 rfl (by kernel_rfl) rfl s (fun _ _ _ => id) rfl fun a k => bsplit (decide (x74 ≤ x76)) (fun hb78 => ?_) (fun hb78 => ?_)
       · have h := bif_t hb78 h
         refine rB k 50 rfl hb78 fun k => dt k 26 rfl (by kernel_rfl) rfl s (fun _ _ _ => id) (fun w s => r_fa fa120_4 k rfl rfl) fun a k => dt k 27 rfl (by kernel_rfl) rfl s (fun _ _ _ => id) (fun w s => r_ld1 t13 (r := []) (hb4.at ((hMd.step s).a 0 rfl) 4 1 rfl rfl rfl) k rfl rfl) fun a k => dt k 28 rfl (by kernel_rfl) rfl s (fun _ _ _ => id) (fun w s => r_fa fa92_5 k rfl rfl) fun a k => dt k 29 rfl (by kernel_rfl) rfl s (fun _ _ _ => id) (fun w s => r_ld1 t13 (r := []) (hb7.at ((hMd.step s).a 1 rfl) 5 1 rfl rfl rfl) k rfl rfl) fun a k => dp k 30 rfl (by kernel_rfl) rfl s (fun _ _ _ => id) rfl fun a k => dp k 31 rfl (by kernel_rfl) rfl s (fun _ _ _ => id) rfl fun a k => dp k 32 rfl (by kernel_rfl) rfl s (fun _ _ _ => id) rfl fun a k => d_done (by kernel_rfl) ?_
         have k := k.keep [4] rfl
         refine (nm_then ?_)
         refine wp_ret (fS h k m rfl rfl)
       have h := bif_f hb78 h
       refine rB k 50 rfl hb78 fun k => ds k 26 rfl (by kernel_rfl) rfl s (fun _ _ _ => id) fun a k => ds k 27 rfl (by kernel_rfl) rfl s (fun _ _ _ => id) fun a k => ds k 28 rfl (by kernel_rfl) rfl s (fun _ _ _ => id) fun a k => ds k 29 rfl (by kernel_rfl) rfl s (fun _ _ _ => id) fun a k => ds k 30 rfl (by kernel_rfl) rfl s (fun _ _ _ => id) fun a k => dp k 31 rfl (by kernel_rfl) rfl s (fun _ _ _ => id) rfl fun a k => dp k 32 rfl (by kernel_rfl) rfl s (fun _ _ _ => id) rfl fun a k => d_done (by kernel_rfl) ?_
       have k := k.keep [4] rfl
       refine (nm_then ?_)
       refine wp_ret (fS h k m rfl rfl)
     have h := bif_f hb73 h
     refine rB k 41 rfl hb73 fun k => ds k 17 rfl (by kernel_rfl) rfl s (fun _ _ _ => id) fun a k => ds k 18 rfl (by kernel_rfl) rfl s (fun _ _ _ => id) fun a k => ds k 19 rfl (by kernel_rfl) rfl s (fun _ _ _ => id) fun a k => ds k 20 rfl (by kernel_rfl) rfl s (fun _ _ _ => id) fun a k => ds k 21 rfl (by kernel_rfl) rfl s (fun _ _ _ => id) fun a k => ds k 22 rfl (by kernel_rfl) rfl s (fun _ _ _ => id) fun a k => ds k 23 rfl (by kernel_rfl) rfl s (fun _ _ _ => id) fun a k => dp k 24 rfl (by kernel_rfl) rfl s (fun _ _ _ => id) rfl fun a k => dp k 25 rfl (by kernel_rfl) rfl s (fun _ _ _ => id) rfl fun a k => ds k 26 rfl (by kernel_rfl) rfl s (fun _ _ _ => id) fun a k => ds k 27 rfl (by kernel_rfl) rfl s (fun _ _ _ => id) fun a k => ds k 28 rfl (by kernel_rfl) rfl s (fun _ _ _ => id) fun a k => ?_
     refine ds k 29 rfl (by kernel_rfl) rfl s (fun _ _ _ => id) fun a k => ds k 30 rfl (by kernel_rfl) rfl s (fun _ _ _ => id) fun a k => dp k 31 rfl (by kernel_rfl) rfl s (fun _ _ _ => id) rfl fun a k => dp k 32 rfl (by kernel_rfl) rfl s (fun _ _ _ => id) rfl fun a k => d_done (by kernel_rfl) ?_
     have k := k.keep [4] rfl
     refine (nm_then ?_)
     refine wp_ret (fS h k m rfl rfl)
   have h := bif_f hb68 h
   refine rB k 32 rfl hb68 fun k => ds k 8 rfl (by kernel_rfl) rfl s (fun _ _ _ => id) fun a k => ds k 9 rfl (by kernel_rfl) rfl s (fun _ _ _ => id) fun a k => ds k 10 rfl (by kernel_rfl) rfl s (fun _ _ _ => id) fun a k => ds k 11 rfl (by kernel_rfl) rfl s (fun _ _ _ => id) fun a k => ds k 12 rfl (by kernel_rfl) rfl s (fun _ _ _ => id) fun a k => ds k 13 rfl (by kernel_rfl) rfl s (fun _ _ _ => id) fun a k => ds k 14 rfl (by kernel_rfl) rfl s (fun _ _ _ => id) fun a k => dp k 15 rfl (by kernel_rfl) rfl s (fun _ _ _ => id) rfl fun a k => dp k 16 rfl (by kernel_rfl) rfl s (fun _ _ _ => id) rfl fun a k => ds k 17 rfl (by kernel_rfl) rfl s (fun _ _ _ => id) fun a k => ds k 18 rfl (by kernel_rfl) rfl s (fun _ _ _ => id) fun a k => ds k 19 rfl (by kernel_rfl) rfl s (fun _ _ _ => id) fun a k => ?_
   refine ds k 20 rfl (by kernel_rfl) rfl s (fun _ _ _ => id) fun a k => ds k 21 rfl (by kernel_rfl) rfl s (fun _ _ _ => id) fun a k => ds k 22 rfl (by kernel_rfl) rfl s (fun _ _ _ => id) fun a k => ds k 23 rfl (by kernel_rfl) rfl s (fun _ _ _ => id) fun a k => dp k 24 rfl (by kernel_rfl) rfl s (fun _ _ _ => id) rfl fun a k => dp k 25 rfl (by kernel_rfl) rfl s (fun _ _ _ => id) rfl fun a k => ds k 26 rfl (by kernel_rfl) rfl s (fun _ _ _ => id) fun a k => ds k 27 rfl (by kernel_rfl) rfl s (fun _ _ _ => id) fun a k => ds k 28 rfl (by kernel_rfl) rfl s (fun _ _ _ => id) fun a k => ds k 29 rfl (by kernel_rfl) rfl s (fun _ _ _ => id) fun a k => ds k 30 rfl (by kernel_rfl) rfl s (fun _ _ _ => id) fun a k => dp k 31 rfl (by kernel_rfl) rfl s (fun _ _ _ => id) rfl fun a k => dp k 32 rfl (by kernel_rfl) rfl s (fun _ _ _ => id) rfl fun a k => ?_
   refine d_done (by kernel_rfl) ?_
   have k := k.keep [4] rfl
   refine (nm_then ?_)
   refine wp_ret (fS h k m rfl rfl)
 refine d_go [] mixo m rfl fun w79 hMd => ?_
 have m := hMd
 have s := Ext.refl ([] : List Nat) w79
 refine dt k 0 rfl (by kernel_rfl) rfl s (fun _ _ _ => id) (fun w s => r_fa fa120_1 k rfl rfl) fun a k => dt k 1 rfl (by kernel_rfl) rfl s (fun _ _ _ => id) (fun w s => r_ld1 t13 (r := []) (hb4.at ((hMd.step s).a 1 rfl) 1 1 rfl rfl rfl) k rfl rfl) fun a k => dt k 2 rfl (by kernel_rfl) rfl s (fun _ _ _ => id) (fun w s => r_fa fa120_2 k rfl rfl) fun a k => dt k 3 rfl (by kernel_rfl) rfl s (fun _ _ _ => id) (fun w s => r_ld1 t13 (r := []) (hb4.at ((hMd.step s).a 1 rfl) 2 1 rfl rfl rfl) k rfl rfl) fun a k => dt k 4 rfl (by kernel_rfl) rfl s (fun _ _ _ => id) (fun w s => r_fa fa120_3 k rfl rfl) fun a k => dt k 5 rfl (by kernel_rfl) rfl s (fun _ _ _ => id) (fun w s => r_ld1 t13 (r := []) (hb4.at ((hMd.step s).a 1 rfl) 3 1 rfl rfl rfl) k rfl rfl) fun a k => ?_
 refine dt k 7 rfl (by kernel_rfl) rfl s (fun _ _ _ => id) (fun w s => r_fa fa92_1 k rfl rfl) fun a k => dt k 8 rfl (by kernel_rfl) rfl s (fun _ _ _ => id) (fun w s => r_ld1 t13 (r := []) (hb7.at ((hMd.step s).a 0 rfl) 1 1 rfl rfl rfl) k rfl rfl) fun a k => dt k 9 rfl (by kernel_rfl) rfl s (fun _ _ _ => id) (fun w s => r_fa fa92_2 k rfl rfl) fun a k => dt k 10 rfl (by kernel_rfl) rfl s (fun _ _ _ => id) (fun w s => r_ld1 t13 (r := []) (hb7.at ((hMd.step s).a 0 rfl) 2 1 rfl rfl rfl) k rfl rfl) fun a k => dt k 11 rfl (by kernel_rfl) rfl s (fun _ _ _ => id) (fun w s => r_fa fa92_3 k rfl rfl) fun a k => dt k 12 rfl (by kernel_rfl) rfl s (fun _ _ _ => id) (fun w s => r_ld1 t13 (r := []) (hb7.at ((hMd.step s).a 0 rfl) 3 1 rfl rfl rfl) k rfl rfl) fun a k => d_two 6 13 (by kernel_rfl) rfl rfl ?_ ?_ 
 · refine s_bsN (cs := [.int .i64 x1.fW, .int .i64 x1.fH, .int .i64 x1.fD]) (ps := [(0, .tmp 8), (1, .tmp 10), (2, .tmp 12)]) te29 m k rfl rfl rfl rfl rfl rfl rfl (by decide) rfl (by exact (List.forall_mem_cons.2 ⟨rfl, (List.forall_mem_cons.2 ⟨rfl, (List.forall_mem_cons.2 ⟨rfl, (List.forall_mem_nil _)⟩)⟩)⟩)) fun g80 w81 e83 a k m e hb82 hgn84 => ?_
   have hlo86 := lo1 (Nat.le_trans s.size hgn84)
   have hf85 := ow_bx hb82 ([x1.fW, x1.fH, x1.fD] : List Int) rfl rfl rfl
   have s := s.trans e (by simp)
   refine wpList_nil ⟨s, ?_⟩
   refine dp k 14 rfl (by kernel_rfl) rfl s (fun _ _ _ => id) rfl fun a k => d_one 13 (by kernel_rfl) rfl (s_bsN (cs := [.int .i64 t2.fW, .int .i64 t2.fH, .int .i64 t2.fD]) (ps := [(0, .tmp 15), (1, .tmp 17), (2, .tmp 19)]) te29 m k rfl rfl rfl rfl rfl rfl rfl (by decide) rfl (by exact (List.forall_mem_cons.2 ⟨rfl, (List.forall_mem_cons.2 ⟨rfl, (List.forall_mem_cons.2 ⟨rfl, (List.forall_mem_nil _)⟩)⟩)⟩)) fun g87 w88 e90 a k m e hb89 hgn91 => ?_)
   have hlo93 := lo1 (Nat.le_trans s.size hgn91)
   have hf92 := ow_bx hb89 ([t2.fW, t2.fH, t2.fD] : List Int) rfl rfl rfl
   have s := s.trans e (by simp)
   refine wpList_nil ⟨s, ?_⟩
   refine dp k 15 rfl (by kernel_rfl) rfl s (fun _ _ _ => id) rfl fun a k => d_done (by kernel_rfl) ((nm_then ?_))
   exact ⟨([x1.fW, x1.fH, x1.fD] : List Int), (.slice (some ⟨g80, 0, none⟩) 3 3), [g80], w81, ([t2.fW, t2.fH, t2.fD] : List Int), (.slice (some ⟨g87, 0, none⟩) 3 3), [g87], w88, k.keep [2, 3, 5, 6] rfl, m.sel [3, 2, 1, 0] rfl (by decide), hf85, hf92, h⟩
 refine s_bsN (cs := [.int .i64 t2.fW, .int .i64 t2.fH, .int .i64 t2.fD]) (ps := [(0, .tmp 15), (1, .tmp 17), (2, .tmp 19)]) te29 m k rfl rfl rfl rfl rfl rfl rfl (by decide) rfl (by exact (List.forall_mem_cons.2 ⟨rfl, (List.forall_mem_cons.2 ⟨rfl, (List.forall_mem_cons.2 ⟨rfl, (List.forall_mem_nil _)⟩)⟩)⟩)) fun g94 w95 e97 a k m e hb96 hgn98 => ?_
 have hlo100 := lo1 (Nat.le_trans s.size hgn98)
 have hf99 := ow_bx hb96 ([t2.fW, t2.fH, t2.fD] : List Int) rfl rfl rfl
 have s := s.trans e (by simp)
 refine wpList_nil ⟨s, ?_⟩
 refine d_one 6 (by kernel_rfl) rfl (s_bsN (cs := [.int .i64 x1.fW, .int .i64 x1.fH, .int .i64 x1.fD]) (ps := [(0, .tmp 8), (1, .tmp 10), (2, .tmp 12)]) te29 m k rfl rfl rfl rfl rfl rfl rfl (by decide) rfl (by exact (List.forall_mem_cons.2 ⟨rfl, (List.forall_mem_cons.2 ⟨rfl, (List.forall_mem_cons.2 ⟨rfl, (List.forall_mem_nil _)⟩)⟩)⟩)) fun g101 w102 e104 a k m e hb103 hgn105 => ?_)
 have hlo107 := lo1 (Nat.le_trans s.size hgn105)
 have hf106 := ow_bx hb103 ([x1.fW, x1.fH, x1.fD] : List Int) rfl rfl rfl
 have s := s.trans e (by simp)
 refine wpList_nil ⟨s, ?_⟩
 refine dp k 14 rfl (by kernel_rfl) rfl s (fun _ _ _ => id) rfl fun a k => dp k 15 rfl (by kernel_rfl) rfl s (fun _ _ _ => id) rfl fun a k => d_done (by kernel_rfl) ((nm_then ?_))
 exact ⟨([x1.fW, x1.fH, x1.fD] : List Int), (.slice (some ⟨g101, 0, none⟩) 3 3), [g101], w102, ([t2.fW, t2.fH, t2.fD] : List Int), (.slice (some ⟨g94, 0, none⟩) 3 3), [g94], w95, k.keep [2, 3, 5, 6] rfl, m.sel [3, 2, 0, 1] rfl (by decide), hf106, hf99, h⟩

end Go.Proofs.YthjbcfefkdbgoaaGreat
