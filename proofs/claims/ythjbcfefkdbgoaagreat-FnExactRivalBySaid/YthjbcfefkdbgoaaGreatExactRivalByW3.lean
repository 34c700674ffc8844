/- FnExactRivalBy: the walks of functions that the law reaches, part 3. Printed by gen.py. -/
import Derived.Test.YthjbcfefkdbgoaaGreatExactRivalByW2
set_option maxRecDepth 20000
set_option linter.unusedSimpArgs false
set_option linter.unusedVariables false
namespace Go.Proofs.YthjbcfefkdbgoaaGreat
open Go Go.RowKit
open Enc (rd ow)
open Arg (argv)
open Ret (retv)
open Go.Proofs.Tryz

theorem te47 : TE Tryz.prog 47 1 24 [.slice none 0 0] := ⟨29, Tryz.t29, underlying47, Tryz.type29, ⟨_, rfl, rfl⟩, rfl, rfl, rfl, by decide⟩
theorem ts47 : TS Tryz.prog 47 1 := ⟨29, underlying47, sizeOf29⟩
theorem t129 : T1 Tryz.prog 29 := ⟨fun w => by simp [isAgg, run_underlying underlying29], sizeOf29⟩

def d_spec_l18May_J1 (fu : Nat) (k7 : Int → Option (Bool)) (i303 : Int)  : Option (Bool) :=
  k7 (w64 (i303 + 1))

def d_spec_l18May_J2 (fu : Nat) (k7 : Int → Option (Bool)) (r1 : Request) (x26 : Item × Bool) (i303 : Int) (i401 : Item) : Option (Bool) :=
  obind (d_spec_Beside fu r1.fPairs x26.1.fClass i401.fClass) fun x402 => bif (!x402) then some (false) else obind (d_spec_Beside fu r1.fPairs i401.fClass x26.1.fClass) fun x407 => bif (!x407) then some (false) else d_spec_l18May_J1 fu k7 i303

def d_spec_l18May_L1_B (fu : Nat)  (r1 : Request) (all5 : List Int) (content9 : List Int) (x26 : Item × Bool) (k7 : Int → Option (Bool)) (i303 : Int) : Option (Bool) :=
  bif (decide (i303 < ((content9.length : Int)))) then obind (ix content9 i303) fun x413 => obind (d_spec_l6Item fu r1 all5 x413) fun x415 => d_spec_l18May_J2 fu k7 r1 x26 i303 x415.1 else some (true)
def d_spec_l18May_L1 (fu : Nat)  (r1 : Request) (all5 : List Int) (content9 : List Int) (x26 : Item × Bool) : Nat → Int → Option (Bool)
  | 0 => fun _ => none
  | n + 1 => d_spec_l18May_L1_B fu r1 all5 content9 x26 (d_spec_l18May_L1 fu r1 all5 content9 x26 n)
theorem d_spec_l18May_L1_s (fu : Nat)  (r1 : Request) (all5 : List Int) (content9 : List Int) (x26 : Item × Bool) (n : Nat) : d_spec_l18May_L1 fu r1 all5 content9 x26 (n + 1) = d_spec_l18May_L1_B fu r1 all5 content9 x26 (d_spec_l18May_L1 fu r1 all5 content9 x26 n) := rfl

def d_spec_l18May (fu : Nat) (r1 : Request) (all5 : List Int) (content9 : List Int) (u13 : Int) : Option (Bool) :=
  obind (d_spec_l6Item fu r1 all5 u13) fun x26 => d_spec_l18May_L1 fu r1 all5 content9 x26 fu 0

def d_spec_RivalBy_J1 (fu : Nat) (k27 : List (List Int) → Int → Option ((List (List Int)))) (u1577 : Int) (out1956 : List (List Int)) : Option ((List (List Int))) :=
  k27 out1956 (w64 (u1577 + 1))

def d_spec_RivalBy_J2 (fu : Nat) (k37 : List Int → Int → Option ((List (List Int)))) (kv2126 : Int) (list2163 : List Int) : Option ((List (List Int))) :=
  k37 list2163 (w64 (kv2126 + 1))

def d_spec_RivalBy_J3 (fu : Nat) (k27 : List (List Int) → Int → Option ((List (List Int)))) (out1572 : List (List Int)) (u1577 : Int) (list2121 : List Int) (pick2210 : Int) : Option ((List (List Int))) :=
  bif (decide (pick2210 < ((list2121.length : Int)))) then obind (ix list2121 pick2210) fun x2213 => obind (ix list2121 pick2210) fun x2215 => obind (ix out1572 x2213) fun x2217 => obind (apnd 8 x2217 (([u1577] : List Int))) fun x2247 => obind (ix out1572 x2213) fun x2261 => d_spec_RivalBy_J1 fu k27 u1577 (setx out1572 x2213 x2247) else obind (apnd 24 out1572 [([u1577] : List Int)]) fun x2317 => d_spec_RivalBy_J1 fu k27 u1577 x2317

def d_spec_RivalBy_J4 (fu : Nat) (k27 : List (List Int) → Int → Option ((List (List Int)))) (out1572 : List (List Int)) (u1577 : Int) (list2121 : List Int) (pick2207 : Int) : Option ((List (List Int))) :=
  bif (decide (pick2207 < 0)) then d_spec_RivalBy_J3 fu k27 out1572 u1577 list2121 (w64 ((w64 (pick2207 + ((list2121.length : Int)))) + 1)) else d_spec_RivalBy_J3 fu k27 out1572 u1577 list2121 pick2207

def d_spec_RivalBy_L1_B (fu : Nat) (k27 : List (List Int) → Int → Option ((List (List Int)))) (r1 : Request) (picks5 : List Int) (x31 : Typ × Bool) (x40 : (List Int)) (out1572 : List (List Int)) (u1577 : Int) (k37 : List Int → Int → Option ((List (List Int)))) (list2121 : List Int) (kv2126 : Int) : Option ((List (List Int))) :=
  bif (decide (kv2126 < ((out1572.length : Int)))) then obind (ix out1572 kv2126) fun x2169 => obind (d_spec_l7Room fu r1 x40 x31.1 x2169 u1577) fun x2178 => bif x2178 then obind (ix out1572 kv2126) fun x2183 => obind (d_spec_l18May fu r1 x40 x2169 u1577) fun x2185 => bif x2185 then obind (apnd 8 list2121 (([kv2126] : List Int))) fun x2195 => d_spec_RivalBy_J2 fu k37 kv2126 x2195 else d_spec_RivalBy_J2 fu k37 kv2126 list2121 else d_spec_RivalBy_J2 fu k37 kv2126 list2121 else bif (decide (u1577 < ((picks5.length : Int)))) then obind (ix picks5 u1577) fun x2328 => obind (odiv (w64 (((list2121.length : Int)) + 1))) fun u2330 => d_spec_RivalBy_J4 fu k27 out1572 u1577 list2121 (Int.tmod x2328 (w64 (((list2121.length : Int)) + 1))) else d_spec_RivalBy_J4 fu k27 out1572 u1577 list2121 0
def d_spec_RivalBy_L1 (fu : Nat) (k27 : List (List Int) → Int → Option ((List (List Int)))) (r1 : Request) (picks5 : List Int) (x31 : Typ × Bool) (x40 : (List Int)) (out1572 : List (List Int)) (u1577 : Int) : Nat → List Int → Int → Option ((List (List Int)))
  | 0 => fun _ _ => none
  | n + 1 => d_spec_RivalBy_L1_B fu k27 r1 picks5 x31 x40 out1572 u1577 (d_spec_RivalBy_L1 fu k27 r1 picks5 x31 x40 out1572 u1577 n)
theorem d_spec_RivalBy_L1_s (fu : Nat) (k27 : List (List Int) → Int → Option ((List (List Int)))) (r1 : Request) (picks5 : List Int) (x31 : Typ × Bool) (x40 : (List Int)) (out1572 : List (List Int)) (u1577 : Int) (n : Nat) : d_spec_RivalBy_L1 fu k27 r1 picks5 x31 x40 out1572 u1577 (n + 1) = d_spec_RivalBy_L1_B fu k27 r1 picks5 x31 x40 out1572 u1577 (d_spec_RivalBy_L1 fu k27 r1 picks5 x31 x40 out1572 u1577 n) := rfl

def d_spec_RivalBy_L2_B (fu : Nat)  (r1 : Request) (picks5 : List Int) (x31 : Typ × Bool) (x40 : (List Int)) (k27 : List (List Int) → Int → Option ((List (List Int)))) (out1572 : List (List Int)) (u1577 : Int) : Option ((List (List Int))) :=
  bif (decide (u1577 < ((x40.length : Int)))) then d_spec_RivalBy_L1 fu k27 r1 picks5 x31 x40 out1572 u1577 fu (([] : List Int)) 0 else some (out1572)
def d_spec_RivalBy_L2 (fu : Nat)  (r1 : Request) (picks5 : List Int) (x31 : Typ × Bool) (x40 : (List Int)) : Nat → List (List Int) → Int → Option ((List (List Int)))
  | 0 => fun _ _ => none
  | n + 1 => d_spec_RivalBy_L2_B fu r1 picks5 x31 x40 (d_spec_RivalBy_L2 fu r1 picks5 x31 x40 n)
theorem d_spec_RivalBy_L2_s (fu : Nat)  (r1 : Request) (picks5 : List Int) (x31 : Typ × Bool) (x40 : (List Int)) (n : Nat) : d_spec_RivalBy_L2 fu r1 picks5 x31 x40 (n + 1) = d_spec_RivalBy_L2_B fu r1 picks5 x31 x40 (d_spec_RivalBy_L2 fu r1 picks5 x31 x40 n) := rfl

def d_spec_RivalBy (fu : Nat) (r1 : Request) (picks5 : List Int) : Option ((List (List Int))) :=
  obind (d_spec_Class fu r1) fun x26 => bif (x26 != 0) then some (([] : List (List Int))) else obind (d_spec_MasterOf fu r1) fun x31 => obind (d_spec_l6Units fu r1) fun x40 => d_spec_RivalBy_L2 fu r1 picks5 x31 x40 fu (([] : List (List Int))) 0

def d_impl_TypeById_1 (fu : Nat) (t1 : Typ) (x2 : Int) : Option (Bool) :=
  some (t1.fId == x2)

def d_slices_IndexFunc_impl_Type_impl_Type_L1_B (fu : Nat)  (sv1 : List Typ) (f5 : Typ → Option Bool) (k1 : Int → Option (Int)) (x32 : Int) : Option (Int) :=
  bif (decide (x32 < ((sv1.length : Int)))) then obind (ix sv1 x32) fun x35 => obind (f5 x35) fun x37 => bif x37 then some (x32) else k1 (w64 (x32 + 1)) else some ((-1))
def d_slices_IndexFunc_impl_Type_impl_Type_L1 (fu : Nat)  (sv1 : List Typ) (f5 : Typ → Option Bool) : Nat → Int → Option (Int)
  | 0 => fun _ => none
  | n + 1 => d_slices_IndexFunc_impl_Type_impl_Type_L1_B fu sv1 f5 (d_slices_IndexFunc_impl_Type_impl_Type_L1 fu sv1 f5 n)
theorem d_slices_IndexFunc_impl_Type_impl_Type_L1_s (fu : Nat)  (sv1 : List Typ) (f5 : Typ → Option Bool) (n : Nat) : d_slices_IndexFunc_impl_Type_impl_Type_L1 fu sv1 f5 (n + 1) = d_slices_IndexFunc_impl_Type_impl_Type_L1_B fu sv1 f5 (d_slices_IndexFunc_impl_Type_impl_Type_L1 fu sv1 f5 n) := rfl

def d_slices_IndexFunc_impl_Type_impl_Type (fu : Nat) (sv1 : List Typ) (f5 : Typ → Option Bool) : Option (Int) :=
  d_slices_IndexFunc_impl_Type_impl_Type_L1 fu sv1 f5 fu 0

def d_impl_TypeById (fu : Nat) (r1 : Request) (id5 : Int) : Option (Typ × Bool) :=
  obind (d_slices_IndexFunc_impl_Type_impl_Type fu r1.fTypes (fun y24 => d_impl_TypeById_1 fu y24 id5)) fun x27 => bif (decide (x27 < 0)) then some ((⟨0, 0, 0, 0, 0, 0, 0⟩ : Typ), false) else obind (ix r1.fTypes x27) fun x34 => some (x34, true)

def d_impl_MasterOf (fu : Nat) (r1 : Request) : Option (Typ × Bool) :=
  obind (d_impl_TypeById fu r1 r1.fMaster) fun x20 => some (x20.1, x20.2)

def d_impl_in (fu : Nat) (n1 : Int) (lo2 : Int) (hi3 : Int) : Option (Bool) :=
  bif (decide (n1 ≥ lo2)) then some (decide (n1 ≤ hi3)) else some (false)

def d_impl_isSide (fu : Nat) (n1 : Int) : Option (Bool) :=
  obind (d_impl_in fu n1 1 2000) fun x2 => some (x2)

def d_impl_PalletOk (fu : Nat) (x1 : Pallet) : Option (Bool) :=
  obind (d_impl_isSide fu x1.fW) fun x5 => bif x5 then obind (d_impl_isSide fu x1.fD) fun x10 => bif x10 then obind (d_impl_isSide fu x1.fH) fun x15 => bif x15 then obind (d_impl_in fu x1.fGram 1 100000) fun x20 => some (x20) else some (false) else some (false) else some (false)

def d_slices_IndexFunc_impl_Pair_impl_Pair_L1_B (fu : Nat)  (sv1 : List Pair) (f5 : Pair → Option Bool) (k1 : Int → Option (Int)) (x32 : Int) : Option (Int) :=
  bif (decide (x32 < ((sv1.length : Int)))) then obind (ix sv1 x32) fun x35 => obind (f5 x35) fun x37 => bif x37 then some (x32) else k1 (w64 (x32 + 1)) else some ((-1))
def d_slices_IndexFunc_impl_Pair_impl_Pair_L1 (fu : Nat)  (sv1 : List Pair) (f5 : Pair → Option Bool) : Nat → Int → Option (Int)
  | 0 => fun _ => none
  | n + 1 => d_slices_IndexFunc_impl_Pair_impl_Pair_L1_B fu sv1 f5 (d_slices_IndexFunc_impl_Pair_impl_Pair_L1 fu sv1 f5 n)
theorem d_slices_IndexFunc_impl_Pair_impl_Pair_L1_s (fu : Nat)  (sv1 : List Pair) (f5 : Pair → Option Bool) (n : Nat) : d_slices_IndexFunc_impl_Pair_impl_Pair_L1 fu sv1 f5 (n + 1) = d_slices_IndexFunc_impl_Pair_impl_Pair_L1_B fu sv1 f5 (d_slices_IndexFunc_impl_Pair_impl_Pair_L1 fu sv1 f5 n) := rfl

def d_slices_IndexFunc_impl_Pair_impl_Pair (fu : Nat) (sv1 : List Pair) (f5 : Pair → Option Bool) : Option (Int) :=
  d_slices_IndexFunc_impl_Pair_impl_Pair_L1 fu sv1 f5 fu 0

def d_slices_ContainsFunc_impl_Pair_impl_Pair (fu : Nat) (sv1 : List Pair) (f5 : Pair → Option Bool) : Option (Bool) :=
  obind (d_slices_IndexFunc_impl_Pair_impl_Pair fu sv1 f5) fun x14 => some (decide (x14 ≥ 0))

def d_impl_BoundsOk_1 (fu : Nat) (p1 : Pair) : Option (Bool) :=
  obind (d_impl_in fu p1.fA 0 3) fun x5 => bif (!x5) then some (true) else obind (d_impl_in fu p1.fB 0 3) fun x10 => some (!x10)

def d_slices_ContainsFunc_impl_Type_impl_Type (fu : Nat) (sv1 : List Typ) (f5 : Typ → Option Bool) : Option (Bool) :=
  obind (d_slices_IndexFunc_impl_Type_impl_Type fu sv1 f5) fun x14 => some (decide (x14 ≥ 0))

def d_impl_TypeOk (fu : Nat) (x1 : Typ) : Option (Bool) :=
  obind (d_impl_in fu x1.fId 0 999) fun x5 => bif x5 then obind (d_impl_isSide fu x1.fW) fun x10 => bif x10 then obind (d_impl_isSide fu x1.fH) fun x15 => bif x15 then obind (d_impl_isSide fu x1.fD) fun x20 => bif x20 then obind (d_impl_in fu x1.fTare 0 100000) fun x25 => bif x25 then obind (d_impl_in fu x1.fGram 1 100000) fun x30 => bif x30 then obind (d_impl_in fu x1.fCost 0 100000) fun x35 => some (x35) else some (false) else some (false) else some (false) else some (false) else some (false) else some (false)

def d_impl_BoundsOk_2 (fu : Nat) (t1 : Typ) : Option (Bool) :=
  obind (d_impl_TypeOk fu t1) fun x5 => some (!x5)

def d_impl_ItemOk (fu : Nat) (x1 : Item) : Option (Bool) :=
  obind (d_impl_in fu x1.fId 0 999) fun x5 => bif x5 then obind (d_impl_isSide fu x1.fW) fun x10 => bif x10 then obind (d_impl_isSide fu x1.fH) fun x15 => bif x15 then obind (d_impl_isSide fu x1.fD) fun x20 => bif x20 then obind (d_impl_in fu x1.fGram 1 100000) fun x25 => bif x25 then obind (d_impl_in fu x1.fClass 0 3) fun x30 => bif x30 then obind (d_impl_in fu x1.fCount 1 6) fun x35 => some (x35) else some (false) else some (false) else some (false) else some (false) else some (false) else some (false)

def d_impl_BoundsOk_L1_B (fu : Nat)  (r1 : Request) (k3 : Int → Int → Option (Bool)) (units93 : Int) (x94 : Int) : Option (Bool) :=
  bif (decide (x94 < ((r1.fItems.length : Int)))) then obind (ix r1.fItems x94) fun x97 => obind (d_impl_ItemOk fu x97) fun x104 => bif (!x104) then some (false) else k3 (w64 (units93 + x97.fCount)) (w64 (x94 + 1)) else some (decide (units93 ≤ 12))
def d_impl_BoundsOk_L1 (fu : Nat)  (r1 : Request) : Nat → Int → Int → Option (Bool)
  | 0 => fun _ _ => none
  | n + 1 => d_impl_BoundsOk_L1_B fu r1 (d_impl_BoundsOk_L1 fu r1 n)
theorem d_impl_BoundsOk_L1_s (fu : Nat)  (r1 : Request) (n : Nat) : d_impl_BoundsOk_L1 fu r1 (n + 1) = d_impl_BoundsOk_L1_B fu r1 (d_impl_BoundsOk_L1 fu r1 n) := rfl

def d_impl_BoundsOk_J1 (fu : Nat) (r1 : Request)  : Option (Bool) :=
  d_impl_BoundsOk_L1 fu r1 fu 0 0

def d_impl_BoundsOk_J2 (fu : Nat) (r1 : Request)  : Option (Bool) :=
  obind (d_slices_ContainsFunc_impl_Pair_impl_Pair fu r1.fPairs (fun y34 => d_impl_BoundsOk_1 fu y34)) fun x37 => bif x37 then some (false) else obind (d_impl_in fu ((r1.fTypes.length : Int)) 1 5) fun x109 => bif (!x109) then some (false) else obind (d_slices_ContainsFunc_impl_Type_impl_Type fu r1.fTypes (fun y114 => d_impl_BoundsOk_2 fu y114)) fun x117 => bif x117 then some (false) else obind (d_impl_in fu r1.fMaster 0 999) fun x122 => bif (!x122) then some (false) else bif (decide (((r1.fItems.length : Int)) > 8)) then some (false) else d_impl_BoundsOk_J1 fu r1

def d_impl_BoundsOk (fu : Nat) (r1 : Request) : Option (Bool) :=
  obind (d_impl_in fu r1.fWay 0 1) fun x128 => bif (!x128) then some (false) else obind (d_impl_PalletOk fu r1.fPallet) fun x133 => bif (!x133) then some (false) else obind (d_impl_in fu r1.fClasses 1 4) fun x138 => bif (!x138) then some (false) else bif (decide (((r1.fPairs.length : Int)) > 16)) then some (false) else d_impl_BoundsOk_J2 fu r1

def d_impl_namesOk_1 (fu : Nat) (q1 : Typ) (x2 : Typ) : Option (Bool) :=
  some (q1.fId == x2.fId)

def d_impl_namesOk_2 (fu : Nat) (q1 : Item) (x2 : Item) : Option (Bool) :=
  some (q1.fId == x2.fId)

def d_slices_IndexFunc_impl_Item_impl_Item_L1_B (fu : Nat)  (sv1 : List Item) (f5 : Item → Option Bool) (k1 : Int → Option (Int)) (x32 : Int) : Option (Int) :=
  bif (decide (x32 < ((sv1.length : Int)))) then obind (ix sv1 x32) fun x35 => obind (f5 x35) fun x37 => bif x37 then some (x32) else k1 (w64 (x32 + 1)) else some ((-1))
def d_slices_IndexFunc_impl_Item_impl_Item_L1 (fu : Nat)  (sv1 : List Item) (f5 : Item → Option Bool) : Nat → Int → Option (Int)
  | 0 => fun _ => none
  | n + 1 => d_slices_IndexFunc_impl_Item_impl_Item_L1_B fu sv1 f5 (d_slices_IndexFunc_impl_Item_impl_Item_L1 fu sv1 f5 n)
theorem d_slices_IndexFunc_impl_Item_impl_Item_L1_s (fu : Nat)  (sv1 : List Item) (f5 : Item → Option Bool) (n : Nat) : d_slices_IndexFunc_impl_Item_impl_Item_L1 fu sv1 f5 (n + 1) = d_slices_IndexFunc_impl_Item_impl_Item_L1_B fu sv1 f5 (d_slices_IndexFunc_impl_Item_impl_Item_L1 fu sv1 f5 n) := rfl

def d_slices_IndexFunc_impl_Item_impl_Item (fu : Nat) (sv1 : List Item) (f5 : Item → Option Bool) : Option (Int) :=
  d_slices_IndexFunc_impl_Item_impl_Item_L1 fu sv1 f5 fu 0

def d_slices_ContainsFunc_impl_Item_impl_Item (fu : Nat) (sv1 : List Item) (f5 : Item → Option Bool) : Option (Bool) :=
  obind (d_slices_IndexFunc_impl_Item_impl_Item fu sv1 f5) fun x14 => some (decide (x14 ≥ 0))

def d_impl_namesOk_3 (fu : Nat) (p1 : Pair) (x2 : Request) : Option (Bool) :=
  bif (decide (p1.fA ≥ x2.fClasses)) then some (true) else some (decide (p1.fB ≥ x2.fClasses))

def d_impl_namesOk_J1 (fu : Nat) (k4 : Int → Option (Bool)) (x178 : Int)  : Option (Bool) :=
  k4 (w64 (x178 + 1))

def d_impl_namesOk_L1_B (fu : Nat)  (r1 : Request) (k4 : Int → Option (Bool)) (x178 : Int) : Option (Bool) :=
  bif (decide (x178 < ((r1.fItems.length : Int)))) then obind (ix r1.fItems x178) fun x203 => bif (decide (x203.fClass ≥ r1.fClasses)) then some (false) else obind (sls r1.fItems 0 x178) fun x211 => obind (d_slices_ContainsFunc_impl_Item_impl_Item fu x211 (fun y216 => d_impl_namesOk_2 fu y216 x203)) fun x219 => bif x219 then some (false) else d_impl_namesOk_J1 fu k4 x178 else obind (d_impl_MasterOf fu r1) fun x224 => bif x224.2 then obind (d_slices_ContainsFunc_impl_Pair_impl_Pair fu r1.fPairs (fun y234 => d_impl_namesOk_3 fu y234 r1)) fun x237 => some (!x237) else some (false)
def d_impl_namesOk_L1 (fu : Nat)  (r1 : Request) : Nat → Int → Option (Bool)
  | 0 => fun _ => none
  | n + 1 => d_impl_namesOk_L1_B fu r1 (d_impl_namesOk_L1 fu r1 n)
theorem d_impl_namesOk_L1_s (fu : Nat)  (r1 : Request) (n : Nat) : d_impl_namesOk_L1 fu r1 (n + 1) = d_impl_namesOk_L1_B fu r1 (d_impl_namesOk_L1 fu r1 n) := rfl

def d_impl_namesOk_L2_B (fu : Nat)  (r1 : Request) (k1 : Int → Option (Bool)) (x63 : Int) : Option (Bool) :=
  bif (decide (x63 < ((r1.fTypes.length : Int)))) then obind (ix r1.fTypes x63) fun x66 => obind (sls r1.fTypes 0 x63) fun x73 => obind (d_slices_ContainsFunc_impl_Type_impl_Type fu x73 (fun y78 => d_impl_namesOk_1 fu y78 x66)) fun x81 => bif x81 then some (false) else k1 (w64 (x63 + 1)) else d_impl_namesOk_L1 fu r1 fu 0
def d_impl_namesOk_L2 (fu : Nat)  (r1 : Request) : Nat → Int → Option (Bool)
  | 0 => fun _ => none
  | n + 1 => d_impl_namesOk_L2_B fu r1 (d_impl_namesOk_L2 fu r1 n)
theorem d_impl_namesOk_L2_s (fu : Nat)  (r1 : Request) (n : Nat) : d_impl_namesOk_L2 fu r1 (n + 1) = d_impl_namesOk_L2_B fu r1 (d_impl_namesOk_L2 fu r1 n) := rfl

def d_impl_namesOk (fu : Nat) (r1 : Request) : Option (Bool) :=
  d_impl_namesOk_L2 fu r1 fu 0

theorem c_spec_l18May (fu : Nat) {w0 : World} (r1 : Request) (all5 : List Int) (content9 : List Int) (u13 : Int) {cs2 : List Value} {F3 : List Nat} (hp4 : rd w0 F3 cs2 r1) {v6 : Value} {F7 : List Nat} (hp8 : rd w0 F7 [v6] all5) {v10 : Value} {F11 : List Nat} (hp12 : rd w0 F11 [v10] content9) {r : Bool}
    (h : d_spec_l18May fu r1 all5 content9 u13 = some r) :
    Calls Tryz.prog 108 #[.agg cs2.toArray, v6, v10, .int .i64 u13] w0 fun e w => e = .returned (.bool (r)) ∧ Ext [] w0 w := by
 refine enter (vs := [_, _, _, _]) func108 rfl ntmps108 rfl fun a k => ?_
 have m := St.start w0
 obtain ⟨v14, F15, v16, F17, v18, F19, rfl, rfl, hf20, hf21, hf22⟩ := hp4
 unfold d_spec_l18May at h
 refine wr (s_box (cs := [.int .i64 r1.fWay, .int .i64 r1.fPallet.fW, .int .i64 r1.fPallet.fD, .int .i64 r1.fPallet.fH, .int .i64 r1.fPallet.fGram, .int .i64 r1.fClasses, v14, v16, .int .i64 r1.fMaster, v18]) m k rfl rfl rfl rfl rfl rfl fun b23 w25 a k m e hb24 => pN 1 k rfl fun a k => nn (wr (sv k rfl (r_ldB ta40 m 0 hb24 0 k rfl rfl rfl rfl rfl rfl) fun a k => pN 2 k rfl fun a k => oE h fun x26 hx27 h => ?_)))
 refine cE k m call102 rfl rfl rfl (c_spec_l6Item fu _ _ _ (show rd _ _ [.int .i64 r1.fWay, .int .i64 r1.fPallet.fW, .int .i64 r1.fPallet.fD, .int .i64 r1.fPallet.fH, .int .i64 r1.fPallet.fGram, .int .i64 r1.fClasses, v14, v16, .int .i64 r1.fMaster, v18] (r1 : Request) from ⟨_, _, _, _, _, _, rfl, rfl, (Enc.rd_agr hf20 (m.a00 (Enc.rd_lt hf20))), (Enc.rd_agr hf21 (m.a00 (Enc.rd_lt hf21))), (Enc.rd_agr hf22 (m.a00 (Enc.rd_lt hf22)))⟩) (Enc.rd_agr hp8 (m.a00 (Enc.rd_lt hp8))) hx27) fun w29 e a k m => pN 3 k rfl fun a k => s_alloc (cs := [.int .i64 0, .int .i64 0, .int .i64 0, .int .i64 0, .int .i64 0, .int .i64 0, .int .i64 0]) m k zeroValue120 rfl rfl rfl rfl rfl fun b30 w32 a k m e hb31 => ?_
 refine s_stb (cs' := [.int .i64 x26.1.fId, .int .i64 x26.1.fW, .int .i64 x26.1.fH, .int .i64 x26.1.fD, .int .i64 x26.1.fGram, .int .i64 x26.1.fClass, .int .i64 x26.1.fCount]) sizeOf120 m 0 hb31 0 k rfl rfl rfl rfl rfl rfl rfl rfl rfl rfl rfl fun w33 a k e m hb34 => pN 1 k rfl fun a k => nn (wp_seq (wr (pN 1 k rfl fun a k => nn (wp_block (c_loop (fun n a w => ∃ (i303 : Int), K 55 [(1, v6), (2, v10), (4, .pointer (some (⟨b23, 0, none⟩ : Addr))), (9, .pointer (some (⟨b30, 0, none⟩ : Addr))), (11, .int .i64 i303)] a ∧ St [] w0 w [([b23], w25), ([b30], w33)] ∧ d_spec_l18May_L1 fu r1 all5 content9 x26 n i303 = some r) ?_ ?_ fu _ _ ?_)))))
 · rintro a w ⟨_, _, _, h⟩
   exact nS h
 · rintro m304 a w302 ⟨i303, k, m, h⟩
   rw [d_spec_l18May_L1_s] at h
   unfold d_spec_l18May_L1_B at h
   refine wp_seq (wr (pN 2 k rfl fun a k => sv k rfl (r_len (α := Int) hp12 k underlying29 rfl rfl) fun a k => pN 1 k rfl fun a k => nn (cI h k rfl (fun hb305 h => ?_) fun hb305 h => ?_)))
   · refine wp_skip (nm_then ?_)
     refine c_cut (fun a w => K 55 [(1, v6), (2, v10), (4, .pointer (some (⟨b23, 0, none⟩ : Addr))), (9, .pointer (some (⟨b30, 0, none⟩ : Addr))), (11, .int .i64 i303)] a ∧ St [] w0 w [([b23], w25), ([b30], w33)] ∧ d_spec_l18May_J1 fu (d_spec_l18May_L1 fu r1 all5 content9 x26 m304) i303 = some r) ?_ ?_
     · rintro a w371 ⟨k, m, h⟩
       unfold d_spec_l18May_J1 at h
       refine wp_region_lit (pN 3 k rfl fun a k => nn ?_)
       exact ⟨w64 (i303 + 1), k.keep [1, 2, 4, 9, 11] rfl, m.sel [0, 1] rfl (by decide), h⟩
     refine wp_block (c_cut (fun a w => ∃ (i401 : Item) (b398 : Nat) (u399 : World), K 55 [(1, v6), (2, v10), (4, .pointer (some (⟨b23, 0, none⟩ : Addr))), (9, .pointer (some (⟨b30, 0, none⟩ : Addr))), (11, .int .i64 i303), (12, .pointer (some (⟨b398, 0, none⟩ : Addr)))] a ∧ St [] w0 w [([b23], w25), ([b30], w33), ([b398], u399)] ∧ bx u399 b398 [.int .i64 i401.fId, .int .i64 i401.fW, .int .i64 i401.fH, .int .i64 i401.fD, .int .i64 i401.fGram, .int .i64 i401.fClass, .int .i64 i401.fCount] 120 ∧ d_spec_l18May_J2 fu (d_spec_l18May_L1 fu r1 all5 content9 x26 m304) r1 x26 i303 i401 = some r) ?_ ?_)
     · rintro a w397 ⟨i401, b398, u399, k, m, hb400, h⟩
       unfold d_spec_l18May_J2 at h
       refine wr (sv k rfl (r_fa fa40_3 k rfl rfl) fun a k => sv k rfl (r_ldb t136 m 0 hb24 6 k rfl rfl rfl rfl rfl) fun a k => sv k rfl (r_fa fa120_5 k rfl rfl) fun a k => sv k rfl (r_ldb t13 m 1 hb34 5 k rfl rfl rfl rfl rfl) fun a k => sv k rfl (r_fa fa120_5 k rfl rfl) fun a k => sv k rfl (r_ldb t13 m 2 hb400 5 k rfl rfl rfl rfl rfl) fun a k => oE h fun x402 hx403 h => cE k m call113 rfl rfl rfl (c_spec_Beside fu _ _ _ (Enc.rd_agr hf20 (m.a00 (Enc.rd_lt hf20))) hx403) fun w405 e a k m => pN 2 k rfl fun a k => bsplit (!x402) (fun hb406 => ?_) (fun hb406 => ?_))
       · have h := bif_t hb406 h
         refine rB k 45 rfl hb406 fun k => pN 9 k rfl fun a k => nn (wp_cond_true (k.ev rfl) (wr (pN 1 k rfl fun a k => nn (wp_ret (rt_block (rt_then (rt_then (rt_block (rt_then ?_)))))))))
         refine fS h k m rfl rfl
       have h := bif_f hb406 h
       refine rB k 45 rfl hb406 fun k => sv k rfl (r_fa fa40_3 k rfl rfl) fun a k => sv k rfl (r_ldb t136 m 0 hb24 6 k rfl rfl rfl rfl rfl) fun a k => sv k rfl (r_fa fa120_5 k rfl rfl) fun a k => sv k rfl (r_ldb t13 m 2 hb400 5 k rfl rfl rfl rfl rfl) fun a k => sv k rfl (r_fa fa120_5 k rfl rfl) fun a k => sv k rfl (r_ldb t13 m 1 hb34 5 k rfl rfl rfl rfl rfl) fun a k => oE h fun x407 hx408 h => cE k m call113 rfl rfl rfl (c_spec_Beside fu _ _ _ (Enc.rd_agr hf20 (m.a00 (Enc.rd_lt hf20))) hx408) fun w410 e a k m => pN 2 k rfl fun a k => nn (cI h k rfl (fun hb411 h => ?_) fun hb411 h => ?_)
       · refine wr (pN 1 k rfl fun a k => nn (wp_ret (rt_block (rt_then (rt_then (rt_block (rt_then ?_)))))))
         refine fS h k m rfl rfl
       refine wp_skip (nm_block (nm_then ?_))
       exact ⟨k.keep [1, 2, 4, 9, 11] rfl, m.sel [0, 1] rfl (by decide), h⟩
     refine d_go [] mixo m rfl fun w412 hMd => ?_
     have m := hMd
     have s := Ext.refl ([] : List Nat) w412
     refine dt k 0 rfl (by kernel_rfl) rfl s (fun _ _ _ => id) (fun w s => r_ldA ta40 (hb24.at ((hMd.step s).a 0 rfl) 0 10 rfl rfl rfl) rfl k rfl rfl) fun a k => dp k 1 rfl (by kernel_rfl) rfl s (fun _ _ _ => id) rfl fun a k => dp k 2 rfl (by kernel_rfl) rfl s (fun _ _ _ => id) rfl fun a k => dp k 3 rfl (by kernel_rfl) rfl s (fun _ _ _ => id) rfl fun a k => oE h fun x413 hx414 h => dt k 4 rfl (by kernel_rfl) rfl s (fun _ _ _ => id) (fun w s => r_ixa hp12 hx414 k ts29 rfl rfl rfl) fun a k => dt k 5 rfl (by kernel_rfl) rfl s (fun _ _ _ => id) (fun w s => r_lde1 hp12 ((hMd.step s).a00 (Enc.rd_lt hp12)) hx414 0 t13 k rfl rfl rfl rfl) fun a k => d_two 6 10 (by kernel_rfl) rfl rfl ?_ ?_ 
     · refine oE h fun x415 hx416 h => cE k m call102 rfl rfl rfl (c_spec_l6Item fu _ _ _ (show rd _ _ [.int .i64 r1.fWay, .int .i64 r1.fPallet.fW, .int .i64 r1.fPallet.fD, .int .i64 r1.fPallet.fH, .int .i64 r1.fPallet.fGram, .int .i64 r1.fClasses, v14, v16, .int .i64 r1.fMaster, v18] (r1 : Request) from ⟨_, _, _, _, _, _, rfl, rfl, (Enc.rd_agr hf20 (m.a00 (Enc.rd_lt hf20))), (Enc.rd_agr hf21 (m.a00 (Enc.rd_lt hf21))), (Enc.rd_agr hf22 (m.a00 (Enc.rd_lt hf22)))⟩) (Enc.rd_agr hp8 (m.a00 (Enc.rd_lt hp8))) hx416) fun w418 e a k m => ?_
       have s := s.trans e (by simp)
       refine wpList_nil ⟨s, ?_⟩
       refine dp k 7 rfl (by kernel_rfl) rfl s (fun _ _ _ => id) rfl fun a k => dp k 8 rfl (by kernel_rfl) rfl s (fun _ _ _ => id) rfl fun a k => dp k 9 rfl (by kernel_rfl) rfl s (fun _ _ _ => id) rfl fun a k => d_one 10 (by kernel_rfl) rfl (s_allocN (cs := [.int .i64 0, .int .i64 0, .int .i64 0, .int .i64 0, .int .i64 0, .int .i64 0, .int .i64 0]) m k zeroValue120 rfl rfl rfl rfl rfl fun b419 w421 a k m e hb420 hbn422 => ?_)
       have hlo423 := lo1 (Nat.le_trans s.size hbn422)
       have s := s.trans e (by simp)
       refine wpList_nil ⟨s, ?_⟩
       refine d_one 11 (by kernel_rfl) rfl (s_stb (cs' := [.int .i64 x415.1.fId, .int .i64 x415.1.fW, .int .i64 x415.1.fH, .int .i64 x415.1.fD, .int .i64 x415.1.fGram, .int .i64 x415.1.fClass, .int .i64 x415.1.fCount]) sizeOf120 m 0 hb420 0 k rfl rfl rfl rfl rfl rfl rfl rfl rfl rfl rfl fun w424 a k e m hb425 => ?_)
       have s := s.trans e (fun y hy => Or.inr (hlo423 y hy))
       refine wpList_nil ⟨s, ?_⟩
       refine dp k 12 rfl (by kernel_rfl) rfl s (fun _ _ _ => id) rfl fun a k => d_done (by kernel_rfl) ((nm_then ?_))
       exact ⟨x415.1, b419, w424, k.keep [1, 2, 4, 9, 11, 12] rfl, m.sel [1, 2, 0] rfl (by decide), hb425, h⟩
     refine s_allocN (cs := [.int .i64 0, .int .i64 0, .int .i64 0, .int .i64 0, .int .i64 0, .int .i64 0, .int .i64 0]) m k zeroValue120 rfl rfl rfl rfl rfl fun b426 w428 a k m e hb427 hbn429 => ?_
     have hlo430 := lo1 (Nat.le_trans s.size hbn429)
     have s := s.trans e (by simp)
     refine wpList_nil ⟨s, ?_⟩
     refine d_one 6 (by kernel_rfl) rfl (oE h fun x431 hx432 h => cE k m call102 rfl rfl rfl (c_spec_l6Item fu _ _ _ (show rd _ _ [.int .i64 r1.fWay, .int .i64 r1.fPallet.fW, .int .i64 r1.fPallet.fD, .int .i64 r1.fPallet.fH, .int .i64 r1.fPallet.fGram, .int .i64 r1.fClasses, v14, v16, .int .i64 r1.fMaster, v18] (r1 : Request) from ⟨_, _, _, _, _, _, rfl, rfl, (Enc.rd_agr hf20 (m.a00 (Enc.rd_lt hf20))), (Enc.rd_agr hf21 (m.a00 (Enc.rd_lt hf21))), (Enc.rd_agr hf22 (m.a00 (Enc.rd_lt hf22)))⟩) (Enc.rd_agr hp8 (m.a00 (Enc.rd_lt hp8))) hx432) fun w434 e a k m => ?_)
     have s := s.trans e (by simp)
     refine wpList_nil ⟨s, ?_⟩
     refine dp k 7 rfl (by kernel_rfl) rfl s (fun _ _ _ => id) rfl fun a k => dp k 8 rfl (by kernel_rfl) rfl s (fun _ _ _ => id) rfl fun a k => dp k 9 rfl (by kernel_rfl) rfl s (fun _ _ _ => id) rfl fun a k => d_one 11 (by kernel_rfl) rfl (s_stb (cs' := [.int .i64 x431.1.fId, .int .i64 x431.1.fW, .int .i64 x431.1.fH, .int .i64 x431.1.fD, .int .i64 x431.1.fGram, .int .i64 x431.1.fClass, .int .i64 x431.1.fCount]) sizeOf120 m 0 hb427 0 k rfl rfl rfl rfl rfl rfl rfl rfl rfl rfl rfl fun w435 a k e m hb436 => ?_)
     have s := s.trans e (fun y hy => Or.inr (hlo430 y hy))
     refine wpList_nil ⟨s, ?_⟩
     refine dp k 12 rfl (by kernel_rfl) rfl s (fun _ _ _ => id) rfl fun a k => d_done (by kernel_rfl) ((nm_then ?_))
     exact ⟨x431.1, b426, w435, k.keep [1, 2, 4, 9, 11, 12] rfl, m.sel [1, 2, 0] rfl (by decide), hb436, h⟩
   refine wp_exit (ex_then (ex_then (ex_same (nm_then ?_))))
   refine wr (pN 1 k rfl fun a k => nn (wp_ret (fS h k m rfl rfl)))
 exact ⟨0, k.keep [1, 2, 4, 9, 11] rfl, m.sel [1, 0] rfl (by decide), h⟩
theorem c_spec_RivalBy (fu : Nat) {w0 : World} (r1 : Request) (picks5 : List Int) {cs2 : List Value} {F3 : List Nat} (hp4 : rd w0 F3 cs2 r1) {v6 : Value} {F7 : List Nat} (hp8 : rd w0 F7 [v6] picks5) {r : (List (List Int))}
    (h : d_spec_RivalBy fu r1 picks5 = some r) :
    Calls Tryz.prog 48 #[.agg cs2.toArray, v6] w0 fun e w => ∃ (v0 : Value) (G0 : List Nat), e = .returned (v0) ∧ Ext [] w0 w ∧ ow w G0 [v0] r ∧ (∀ b ∈ G0, w0.heap.size ≤ b) := by
 refine enter (vs := [_, _]) func48 rfl ntmps48 rfl fun a k => ?_
 have m := St.start w0
 obtain ⟨v9, F10, v11, F12, v13, F14, rfl, rfl, hf15, hf16, hf17⟩ := hp4
 unfold d_spec_RivalBy at h
 refine wr (s_box (cs := [.int .i64 r1.fWay, .int .i64 r1.fPallet.fW, .int .i64 r1.fPallet.fD, .int .i64 r1.fPallet.fH, .int .i64 r1.fPallet.fGram, .int .i64 r1.fClasses, v9, v11, .int .i64 r1.fMaster, v13]) m k rfl rfl rfl rfl rfl rfl fun b18 w20 a k m e hb19 => pN 1 k rfl fun a k => nn (wr (s_bs (cs := []) (ps := []) te47 m k rfl rfl rfl rfl rfl rfl rfl (by decide) rfl (by exact (List.forall_mem_nil _)) fun g21 w22 e24 a k m e hb23 => ?_)))
 have hf25 := ow_bx0 (α := List Int) hb23
 refine pN 1 k rfl fun a k => nn (wp_seq (wr (sv k rfl (r_ldB ta40 m 1 hb19 0 k rfl rfl rfl rfl rfl rfl) fun a k => oE h fun x26 hx27 h => cE k m call68 rfl rfl rfl (c_spec_Class fu _ (show rd _ _ [.int .i64 r1.fWay, .int .i64 r1.fPallet.fW, .int .i64 r1.fPallet.fD, .int .i64 r1.fPallet.fH, .int .i64 r1.fPallet.fGram, .int .i64 r1.fClasses, v9, v11, .int .i64 r1.fMaster, v13] (r1 : Request) from ⟨_, _, _, _, _, _, rfl, rfl, (Enc.rd_agr hf15 (m.a00 (Enc.rd_lt hf15))), (Enc.rd_agr hf16 (m.a00 (Enc.rd_lt hf16))), (Enc.rd_agr hf17 (m.a00 (Enc.rd_lt hf17)))⟩) hx27) fun w29 e a k m => pN 1 k rfl fun a k => nn (cI h k rfl (fun hb30 h => ?_) fun hb30 h => ?_))))
 · refine wr (pN 2 k rfl fun a k => nn (wp_ret (rt_then ?_)))
   cases h
   exact finR1 k rfl (RV.tmp k rfl) ⟨_, [g21], rfl, m.ext, (Enc.ow_agr hf25 (m.a 0 rfl)), (m.fresh 0 rfl)⟩
 refine wp_skip (nm_then ?_)
 refine wr (sv k rfl (r_ldB ta40 m 1 hb19 0 k rfl rfl rfl rfl rfl rfl) fun a k => oE h fun x31 hx32 h => cE k m call88 rfl rfl rfl (c_spec_MasterOf fu _ (show rd _ _ [.int .i64 r1.fWay, .int .i64 r1.fPallet.fW, .int .i64 r1.fPallet.fD, .int .i64 r1.fPallet.fH, .int .i64 r1.fPallet.fGram, .int .i64 r1.fClasses, v9, v11, .int .i64 r1.fMaster, v13] (r1 : Request) from ⟨_, _, _, _, _, _, rfl, rfl, (Enc.rd_agr hf15 (m.a00 (Enc.rd_lt hf15))), (Enc.rd_agr hf16 (m.a00 (Enc.rd_lt hf16))), (Enc.rd_agr hf17 (m.a00 (Enc.rd_lt hf17)))⟩) hx32) fun w34 e a k m => pN 3 k rfl fun a k => s_alloc (cs := [.int .i64 0, .int .i64 0, .int .i64 0, .int .i64 0, .int .i64 0, .int .i64 0, .int .i64 0]) m k zeroValue92 rfl rfl rfl rfl rfl fun b35 w37 a k m e hb36 => ?_)
 refine s_stb (cs' := [.int .i64 x31.1.fId, .int .i64 x31.1.fW, .int .i64 x31.1.fH, .int .i64 x31.1.fD, .int .i64 x31.1.fTare, .int .i64 x31.1.fGram, .int .i64 x31.1.fCost]) sizeOf92 m 0 hb36 0 k rfl rfl rfl rfl rfl rfl rfl rfl rfl rfl rfl fun w38 a k e m hb39 => pN 1 k rfl fun a k => nn (wr (sv k rfl (r_ldB ta40 m 2 hb19 0 k rfl rfl rfl rfl rfl rfl) fun a k => oE h fun x40 hx41 h => ?_))
 refine s_call k call106 rfl rfl rfl rfl rfl (c_spec_l6Units fu _ (show rd _ _ [.int .i64 r1.fWay, .int .i64 r1.fPallet.fW, .int .i64 r1.fPallet.fD, .int .i64 r1.fPallet.fH, .int .i64 r1.fPallet.fGram, .int .i64 r1.fClasses, v9, v11, .int .i64 r1.fMaster, v13] (r1 : Request) from ⟨_, _, _, _, _, _, rfl, rfl, (Enc.rd_agr hf15 (m.a00 (Enc.rd_lt hf15))), (Enc.rd_agr hf16 (m.a00 (Enc.rd_lt hf16))), (Enc.rd_agr hf17 (m.a00 (Enc.rd_lt hf17)))⟩) hx41) fun e42 w43 hR => ?_
 obtain ⟨v48, F44, rfl, e, hf45, hfr46⟩ := hR
 refine ⟨_, rfl, fun a k => ?_⟩
 have m := m.new e F44 (fun b hb => ⟨hfr46 b hb, Enc.rd_lt (Enc.ow_rd hf45) b hb⟩) (Enc.ow_nd hf45)
 refine pN 1 k rfl fun a k => nn (wp_seq (wr (pN 1 k rfl fun a k => nn (wp_block ?_))))
 refine c_loop (fun n a w => ∃ (u1568 : World) (u1570 : World) (out1572 : List (List Int)) (v1573 : Value) (F1574 : List Nat) (u1575 : World) (u1577 : Int), K 106 [(1, v6), (2, .pointer (some (⟨b18, 0, none⟩ : Addr))), (5, v1573), (6, .pointer (some (⟨b35, 0, none⟩ : Addr))), (8, v48), (9, .int .i64 u1577)] a ∧ St [] w0 w [([b18], u1568), ([b35], u1570), (F44, w43), (F1574, u1575)] ∧ bx u1568 b18 [.int .i64 r1.fWay, .int .i64 r1.fPallet.fW, .int .i64 r1.fPallet.fD, .int .i64 r1.fPallet.fH, .int .i64 r1.fPallet.fGram, .int .i64 r1.fClasses, v9, v11, .int .i64 r1.fMaster, v13] 40 ∧ bx u1570 b35 [.int .i64 x31.1.fId, .int .i64 x31.1.fW, .int .i64 x31.1.fH, .int .i64 x31.1.fD, .int .i64 x31.1.fTare, .int .i64 x31.1.fGram, .int .i64 x31.1.fCost] 92 ∧ ow u1575 F1574 [v1573] out1572 ∧ d_spec_RivalBy_L2 fu r1 picks5 x31 x40 n out1572 u1577 = some r) ?_ ?_ fu _ _ ?_
 · rintro a w ⟨_, _, _, _, _, _, _, _, _, _, _, _, h⟩
   exact nS h
 · rintro m1578 a w1567 ⟨u1568, u1570, out1572, v1573, F1574, u1575, u1577, k, m, hb1569, hb1571, hf1576, h⟩
   rw [d_spec_RivalBy_L2_s] at h
   unfold d_spec_RivalBy_L2_B at h
   refine wp_seq (wr (pN 2 k rfl fun a k => sv k rfl (r_len (α := Int) (Enc.ow_rd hf45) k underlying29 rfl rfl) fun a k => pN 1 k rfl fun a k => nn (cI h k rfl (fun hb1579 h => ?_) fun hb1579 h => ?_)))
   · refine wp_skip (nm_then ?_)
     refine c_cut (fun a w => ∃ (u1952 : World) (u1954 : World) (out1956 : List (List Int)) (v1957 : Value) (F1958 : List Nat) (u1959 : World), K 106 [(1, v6), (2, .pointer (some (⟨b18, 0, none⟩ : Addr))), (5, v1957), (6, .pointer (some (⟨b35, 0, none⟩ : Addr))), (8, v48), (9, .int .i64 u1577)] a ∧ St [] w0 w [([b18], u1952), ([b35], u1954), (F44, w43), (F1958, u1959)] ∧ bx u1952 b18 [.int .i64 r1.fWay, .int .i64 r1.fPallet.fW, .int .i64 r1.fPallet.fD, .int .i64 r1.fPallet.fH, .int .i64 r1.fPallet.fGram, .int .i64 r1.fClasses, v9, v11, .int .i64 r1.fMaster, v13] 40 ∧ bx u1954 b35 [.int .i64 x31.1.fId, .int .i64 x31.1.fW, .int .i64 x31.1.fH, .int .i64 x31.1.fD, .int .i64 x31.1.fTare, .int .i64 x31.1.fGram, .int .i64 x31.1.fCost] 92 ∧ ow u1959 F1958 [v1957] out1956 ∧ d_spec_RivalBy_J1 fu (d_spec_RivalBy_L2 fu r1 picks5 x31 x40 m1578) u1577 out1956 = some r) ?_ ?_
     · rintro a w1951 ⟨u1952, u1954, out1956, v1957, F1958, u1959, k, m, hb1953, hb1955, hf1960, h⟩
       unfold d_spec_RivalBy_J1 at h
       refine wp_region_lit (pN 3 k rfl fun a k => nn ?_)
       exact ⟨u1952, u1954, out1956, v1957, F1958, u1959, w64 (u1577 + 1), k.keep [1, 2, 5, 6, 8, 9] rfl, m.sel [0, 1, 2, 3] rfl (by decide), hb1953, hb1955, hf1960, h⟩
     refine wp_block (wr (s_bs (cs := []) (ps := []) te29 m k rfl rfl rfl rfl rfl rfl rfl (by decide) rfl (by exact (List.forall_mem_nil _)) fun g1961 w1962 e1964 a k m e hb1963 => ?_))
     have hf1965 := ow_bx hb1963 ([] : List Int) rfl rfl rfl
     refine pN 1 k rfl fun a k => nn (wp_seq (wr (pN 1 k rfl fun a k => nn (wp_block (c_loop (fun n a w => ∃ (list2121 : List Int) (v2122 : Value) (F2123 : List Nat) (u2124 : World) (kv2126 : Int), K 106 [(1, v6), (2, .pointer (some (⟨b18, 0, none⟩ : Addr))), (5, v1573), (6, .pointer (some (⟨b35, 0, none⟩ : Addr))), (8, v48), (9, .int .i64 u1577), (10, v2122), (11, .int .i64 kv2126)] a ∧ St [] w0 w [([b18], u1568), ([b35], u1570), (F1574, u1575), (F44, w43), (F2123, u2124)] ∧ ow u2124 F2123 [v2122] list2121 ∧ d_spec_RivalBy_L1 fu (d_spec_RivalBy_L2 fu r1 picks5 x31 x40 m1578) r1 picks5 x31 x40 out1572 u1577 n list2121 kv2126 = some r) ?_ ?_ fu _ _ ?_)))))
     · rintro a w ⟨_, _, _, _, _, _, _, _, h⟩
       exact nS h
     · rintro m2127 a w2120 ⟨list2121, v2122, F2123, u2124, kv2126, k, m, hf2125, h⟩
       rw [d_spec_RivalBy_L1_s] at h
       unfold d_spec_RivalBy_L1_B at h
       refine wp_seq (wr (pN 2 k rfl fun a k => sv k rfl (r_len (α := List Int) (Enc.ow_rd hf1576) k underlying47 rfl rfl) fun a k => pN 1 k rfl fun a k => nn (cI h k rfl (fun hb2128 h => ?_) fun hb2128 h => ?_)))
       · refine wp_skip (nm_then ?_)
         refine c_cut (fun a w => ∃ (list2163 : List Int) (v2164 : Value) (F2165 : List Nat) (u2166 : World), K 106 [(1, v6), (2, .pointer (some (⟨b18, 0, none⟩ : Addr))), (5, v1573), (6, .pointer (some (⟨b35, 0, none⟩ : Addr))), (8, v48), (9, .int .i64 u1577), (10, v2164), (11, .int .i64 kv2126)] a ∧ St [] w0 w [([b18], u1568), ([b35], u1570), (F1574, u1575), (F44, w43), (F2165, u2166)] ∧ ow u2166 F2165 [v2164] list2163 ∧ d_spec_RivalBy_J2 fu (d_spec_RivalBy_L1 fu (d_spec_RivalBy_L2 fu r1 picks5 x31 x40 m1578) r1 picks5 x31 x40 out1572 u1577 m2127) kv2126 list2163 = some r) ?_ ?_
         · rintro a w2162 ⟨list2163, v2164, F2165, u2166, k, m, hf2167, h⟩
           unfold d_spec_RivalBy_J2 at h
           refine wp_region_lit (pN 3 k rfl fun a k => nn ?_)
           exact ⟨list2163, v2164, F2165, u2166, w64 (kv2126 + 1), k.keep [1, 2, 5, 6, 8, 9, 10, 11] rfl, m.sel [0, 1, 2, 3, 4] rfl (by decide), hf2167, h⟩
         refine wp_block (wp_seq (d_go [] mixo m rfl fun w2168 hMd => ?_))
         have m := hMd
         have s := Ext.refl ([] : List Nat) w2168
         refine dt k 0 rfl (by kernel_rfl) rfl s (fun _ _ _ => id) (fun w s => r_ldA ta40 (hb1569.at ((hMd.step s).a 0 rfl) 0 10 rfl rfl rfl) rfl k rfl rfl) fun a k => dp k 1 rfl (by kernel_rfl) rfl s (fun _ _ _ => id) rfl fun a k => dt k 2 rfl (by kernel_rfl) rfl s (fun _ _ _ => id) (fun w s => r_ldA ta92 (hb1571.at ((hMd.step s).a 1 rfl) 0 7 rfl rfl rfl) rfl k rfl rfl) fun a k => dp k 3 rfl (by kernel_rfl) rfl s (fun _ _ _ => id) rfl fun a k => dp k 4 rfl (by kernel_rfl) rfl s (fun _ _ _ => id) rfl fun a k => oE h fun x2169 hx2170 h => dt k 5 rfl (by kernel_rfl) rfl s (fun _ _ _ => id) (fun w s => r_ixa (Enc.ow_rd hf1576) hx2170 k ts47 rfl rfl rfl) fun a k => ?_
         obtain ⟨G2171, cs2172, hG2173, hr2174, hp2175, hb2176⟩ := rd_get (Enc.ow_rd hf1576) (ix_some hx2170).2.2
         obtain ⟨v2177, rfl⟩ : ∃ v, cs2172 = [v] := by obtain ⟨_, _, hq, _⟩ := hr2174; exact ⟨_, hq⟩
         refine dt k 6 rfl (by kernel_rfl) rfl s (fun _ _ _ => id) (fun w s => r_ld1 t129 (hp2175.agr ((hMd.step s).a 2 rfl) hb2176) k rfl rfl) fun a k => dp k 7 rfl (by kernel_rfl) rfl s (fun _ _ _ => id) rfl fun a k => d_one 8 (by kernel_rfl) rfl (oE h fun x2178 hx2179 h => cE k m call107 rfl rfl rfl (c_spec_l7Room fu _ _ (x31.1 : Typ) _ _ (show rd _ _ [.int .i64 r1.fWay, .int .i64 r1.fPallet.fW, .int .i64 r1.fPallet.fD, .int .i64 r1.fPallet.fH, .int .i64 r1.fPallet.fGram, .int .i64 r1.fClasses, v9, v11, .int .i64 r1.fMaster, v13] (r1 : Request) from ⟨_, _, _, _, _, _, rfl, rfl, (Enc.rd_agr hf15 (m.a00 (Enc.rd_lt hf15))), (Enc.rd_agr hf16 (m.a00 (Enc.rd_lt hf16))), (Enc.rd_agr hf17 (m.a00 (Enc.rd_lt hf17)))⟩) (Enc.rd_agr (Enc.ow_rd hf45) (m.a 3 rfl)) (Enc.rd_agr hr2174 ((m.a 2 rfl).sub hG2173)) hx2179) fun w2181 e a k m => ?_)
         have s := s.trans e (by simp)
         refine wpList_nil ⟨s, ?_⟩
         refine dp k 9 rfl (by kernel_rfl) rfl s (fun _ _ _ => id) rfl fun a k => bsplit (x2178) (fun hb2182 => ?_) (fun hb2182 => ?_)
         · have h := bif_t hb2182 h
           refine rB k 47 rfl hb2182 fun k => dt k 10 rfl (by kernel_rfl) rfl s (fun _ _ _ => id) (fun w s => r_ldA ta40 (hb1569.at ((hMd.step s).a 0 rfl) 0 10 rfl rfl rfl) rfl k rfl rfl) fun a k => dp k 11 rfl (by kernel_rfl) rfl s (fun _ _ _ => id) rfl fun a k => dp k 12 rfl (by kernel_rfl) rfl s (fun _ _ _ => id) rfl fun a k => dp k 13 rfl (by kernel_rfl) rfl s (fun _ _ _ => id) rfl fun a k => oE h fun x2183 hx2184 h => dt k 14 rfl (by kernel_rfl) rfl s (fun _ _ _ => id) (fun w s => r_ixa (Enc.ow_rd hf1576) hx2170 k ts47 rfl rfl rfl) fun a k => dt k 15 rfl (by kernel_rfl) rfl s (fun _ _ _ => id) (fun w s => r_ld1 t129 (hp2175.agr ((hMd.step s).a 2 rfl) hb2176) k rfl rfl) fun a k => dp k 16 rfl (by kernel_rfl) rfl s (fun _ _ _ => id) rfl fun a k => d_one 17 (by kernel_rfl) rfl (oE h fun x2185 hx2186 h => ?_)
           refine cE k m call108 rfl rfl rfl (c_spec_l18May fu _ _ _ _ (show rd _ _ [.int .i64 r1.fWay, .int .i64 r1.fPallet.fW, .int .i64 r1.fPallet.fD, .int .i64 r1.fPallet.fH, .int .i64 r1.fPallet.fGram, .int .i64 r1.fClasses, v9, v11, .int .i64 r1.fMaster, v13] (r1 : Request) from ⟨_, _, _, _, _, _, rfl, rfl, (Enc.rd_agr hf15 (m.a00 (Enc.rd_lt hf15))), (Enc.rd_agr hf16 (m.a00 (Enc.rd_lt hf16))), (Enc.rd_agr hf17 (m.a00 (Enc.rd_lt hf17)))⟩) (Enc.rd_agr (Enc.ow_rd hf45) (m.a 3 rfl)) (Enc.rd_agr hr2174 ((m.a 2 rfl).sub hG2173)) hx2186) fun w2188 e a k m => ?_
           have s := s.trans e (by simp)
           refine wpList_nil ⟨s, ?_⟩
           refine dp k 18 rfl (by kernel_rfl) rfl s (fun _ _ _ => id) rfl fun a k => d_done (by kernel_rfl) ((nm_then ?_))
           refine cI h k rfl (fun hb2189 h => ?_) fun hb2189 h => ?_
           · refine wp_region_lit (pN 2 k rfl fun a k => s_bs (cs := [.int .i64 kv2126]) (ps := [(0, .tmp 58)]) te29 m k rfl rfl rfl rfl rfl rfl rfl (by decide) rfl (by exact (List.forall_mem_cons.2 ⟨rfl, (List.forall_mem_nil _)⟩)) fun g2190 w2191 e2193 a k m e hb2192 => ?_)
             have hf2194 := ow_bx hb2192 ([kv2126] : List Int) rfl rfl rfl
             refine oE h fun x2195 hx2196 h => s_appF hx2196 te29 rfl m 5 hf2125 (News.rd (Enc.rd_agr (Enc.ow_rd hf2194) (m.a 0 rfl))) rfl rfl k rfl rfl rfl rfl rfl rfl rfl fun v2197 F2198 w2199 a k e m hf2200 => pN 1 k rfl fun a k => ?_
             have k := k.keep [1, 2, 5, 6, 8, 9, 10, 11] rfl
             refine wpList_nil (nm_block (nm_then ?_))
             exact ⟨x2195, v2197, F2198, w2199, k.keep [1, 2, 5, 6, 8, 9, 10, 11] rfl, m.sel [1, 2, 3, 4, 5] rfl (by decide), hf2200, h⟩
           refine wp_skip (nm_block (nm_then ?_))
           exact ⟨list2121, v2122, F2123, u2124, k.keep [1, 2, 5, 6, 8, 9, 10, 11] rfl, m.sel [0, 1, 2, 3, 4] rfl (by decide), hf2125, h⟩
         have h := bif_f hb2182 h
         refine rB k 47 rfl hb2182 fun k => ds k 10 rfl (by kernel_rfl) rfl s (fun _ _ _ => id) fun a k => ds k 11 rfl (by kernel_rfl) rfl s (fun _ _ _ => id) fun a k => ds k 12 rfl (by kernel_rfl) rfl s (fun _ _ _ => id) fun a k => ds k 13 rfl (by kernel_rfl) rfl s (fun _ _ _ => id) fun a k => ds k 14 rfl (by kernel_rfl) rfl s (fun _ _ _ => id) fun a k => ds k 15 rfl (by kernel_rfl) rfl s (fun _ _ _ => id) fun a k => ds k 16 rfl (by kernel_rfl) rfl s (fun _ _ _ => id) fun a k => ds k 17 rfl (by kernel_rfl) rfl s (fun _ _ _ => id) fun a k => dp k 18 rfl (by kernel_rfl) rfl s (fun _ _ _ => id) rfl fun a k => d_done (by kernel_rfl) ((nm_then ?_))
         refine wp_cond_false (k.ev rfl) (wp_skip (nm_block (nm_then ?_)))
         exact ⟨list2121, v2122, F2123, u2124, k.keep [1, 2, 5, 6, 8, 9, 10, 11] rfl, m.sel [0, 1, 2, 3, 4] rfl (by decide), hf2125, h⟩
       refine wp_exit (ex_then (ex_then (ex_same (nm_then ?_))))
       refine wr (pN 1 k rfl fun a k => nn (c_cut (fun a w => ∃ (pick2207 : Int), K 106 [(1, v6), (2, .pointer (some (⟨b18, 0, none⟩ : Addr))), (5, v1573), (6, .pointer (some (⟨b35, 0, none⟩ : Addr))), (8, v48), (9, .int .i64 u1577), (10, v2122), (12, .int .i64 pick2207)] a ∧ St [] w0 w [([b18], u1568), ([b35], u1570), (F1574, u1575), (F44, w43), (F2123, u2124)] ∧ d_spec_RivalBy_J4 fu (d_spec_RivalBy_L2 fu r1 picks5 x31 x40 m1578) out1572 u1577 list2121 pick2207 = some r) ?_ ?_))
       · rintro a w2206 ⟨pick2207, k, m, h⟩
         unfold d_spec_RivalBy_J4 at h
         refine c_cut (fun a w => ∃ (pick2210 : Int), K 106 [(1, v6), (2, .pointer (some (⟨b18, 0, none⟩ : Addr))), (5, v1573), (6, .pointer (some (⟨b35, 0, none⟩ : Addr))), (8, v48), (9, .int .i64 u1577), (10, v2122), (12, .int .i64 pick2210)] a ∧ St [] w0 w [([b18], u1568), ([b35], u1570), (F1574, u1575), (F44, w43), (F2123, u2124)] ∧ d_spec_RivalBy_J3 fu (d_spec_RivalBy_L2 fu r1 picks5 x31 x40 m1578) out1572 u1577 list2121 pick2210 = some r) ?_ ?_
         · rintro a w2209 ⟨pick2210, k, m, h⟩
           unfold d_spec_RivalBy_J3 at h
           refine wr (pN 2 k rfl fun a k => sv k rfl (r_len (α := Int) (Enc.ow_rd hf2125) k underlying29 rfl rfl) fun a k => pN 1 k rfl fun a k => nn (cI h k rfl (fun hb2211 h => ?_) fun hb2211 h => ?_))
           · refine d_go (F1574) mixo m rfl fun w2212 hMd => ?_
             have m := hMd
             have s := Ext.refl ((F1574) : List Nat) w2212
             refine dp k 0 rfl (by kernel_rfl) rfl s (fun _ _ _ => id) rfl fun a k => dp k 1 rfl (by kernel_rfl) rfl s (fun _ _ _ => id) rfl fun a k => dp k 2 rfl (by kernel_rfl) rfl s (fun _ _ _ => id) rfl fun a k => oE h fun x2213 hx2214 h => dt k 3 rfl (by kernel_rfl) rfl s (fun _ _ _ => id) (fun w s => r_ixa (Enc.ow_rd hf2125) hx2214 k ts29 rfl rfl rfl) fun a k => dt k 4 rfl (by kernel_rfl) rfl s (fun _ _ _ => id) (fun w s => r_lde1 (Enc.ow_rd hf2125) (hMd.az 4 2 rfl rfl rfl s) hx2214 0 t13 k rfl rfl rfl rfl) fun a k => dp k 5 rfl (by kernel_rfl) rfl s (fun _ _ _ => id) rfl fun a k => dp k 6 rfl (by kernel_rfl) rfl s (fun _ _ _ => id) rfl fun a k => dp k 7 rfl (by kernel_rfl) rfl s (fun _ _ _ => id) rfl fun a k => oE h fun x2215 hx2216 h => ?_
             refine dt k 8 rfl (by kernel_rfl) rfl s (fun _ _ _ => id) (fun w s => r_ixa (Enc.ow_rd hf2125) hx2214 k ts29 rfl rfl rfl) fun a k => dt k 9 rfl (by kernel_rfl) rfl s (fun _ _ _ => id) (fun w s => r_lde1 (Enc.ow_rd hf2125) (hMd.az 4 2 rfl rfl rfl s) hx2214 0 t13 k rfl rfl rfl rfl) fun a k => oE h fun x2217 hx2218 h => dt k 10 rfl (by kernel_rfl) rfl s (fun _ _ _ => id) (fun w s => r_ixa (Enc.ow_rd hf1576) hx2218 k ts47 rfl rfl rfl) fun a k => ?_
             obtain ⟨G2219, cs2220, hG2221, hr2222, hp2223, hb2224⟩ := rd_get (Enc.ow_rd hf1576) (ix_some hx2218).2.2
             obtain ⟨v2225, rfl⟩ : ∃ v, cs2220 = [v] := by obtain ⟨_, _, hq, _⟩ := hr2222; exact ⟨_, hq⟩
             refine dp k 12 rfl (by kernel_rfl) rfl s (fun _ _ _ => id) rfl fun a k => ?_
             obtain ⟨G2226, cs2227, hG2228, hr2229, hp2230, hb2231⟩ := rd_get (Enc.ow_rd hf1576) (ix_some hx2218).2.2
             obtain ⟨v2232, rfl⟩ : ∃ v, cs2227 = [v] := by obtain ⟨_, _, hq, _⟩ := hr2229; exact ⟨_, hq⟩
             refine d_two 11 13 (by kernel_rfl) rfl rfl ?_ ?_ 
             · obtain ⟨G2233, cs2234, hG2235, hr2236, hp2237, hb2238⟩ := rd_get (Enc.ow_rd hf1576) (ix_some hx2218).2.2
               obtain ⟨v2239, rfl⟩ : ∃ v, cs2234 = [v] := by obtain ⟨_, _, hq, _⟩ := hr2236; exact ⟨_, hq⟩
               refine sv k rfl (r_ld1 t129 (hp2237.agr (m.a 2 rfl) hb2238) k rfl rfl) fun a k => wpList_nil ⟨s, ?_⟩
               refine d_one 13 (by kernel_rfl) rfl (s_bsN (cs := [.int .i64 u1577]) (ps := [(0, .tmp 96)]) te29 m k rfl rfl rfl rfl rfl rfl rfl (by decide) rfl (by exact (List.forall_mem_cons.2 ⟨rfl, (List.forall_mem_nil _)⟩)) fun g2240 w2241 e2243 a k m e hb2242 hgn2244 => ?_)
               have hlo2246 := lo1 (Nat.le_trans s.size hgn2244)
               have hf2245 := ow_bx hb2242 ([u1577] : List Int) rfl rfl rfl
               have s := s.trans e (by simp)
               refine wpList_nil ⟨s, ?_⟩
               refine d_one 14 (by kernel_rfl) rfl ?_
               obtain ⟨A2253, B2254, m, hH2255, hO2256, hsA2257, hsB2258⟩ := m.opnS 3 rfl hf1576 hx2218 hp2237 rfl (M' := [([g2240], w2241), ([b18], u1568), ([b35], u1570), (F44, w43), (F2123, u2124)]) rfl
               refine oE h fun x2247 hx2248 h => s_appFN hx2248 te29 rfl m 1 hO2256 (News.rd (Enc.rd_agr (Enc.ow_rd hf2245) (m.a 2 rfl))) rfl rfl k rfl rfl rfl rfl rfl rfl rfl fun v2249 F2250 w2251 a k e m hf2252 hap2259 => ?_
               have hlo2260 : ∀ y ∈ F2250, y ∈ (F1574) ∨ _ ≤ y := fun y hy => (hap2259 y hy).elim (fun hy => (fun y hy => (fun y hy => Or.inl hy) y (hsB2258 y hy)) y hy) (fun h => Or.inr (Nat.le_trans s.size h))
               have s := s.trans e (fun y hy => (fun y hy => Or.inl hy) y (hsB2258 y hy))
               refine wpList_nil ⟨s, ?_⟩
               refine oE h fun x2261 hx2262 h => dt k 15 rfl (by kernel_rfl) rfl s (fun _ _ _ => id) (fun w s => r_ixa (Enc.ow_rd hf1576) hx2218 k ts47 rfl rfl rfl) fun a k => d_one 16 (by kernel_rfl) rfl (s_stH1 (α := List Int) (sz := 1) (cs' := [v2249]) sizeOf29 m 0 hH2255 0 k (rd_c (Enc.ow_rd hf2252)) (rd_o (Enc.ow_rd hf2252)) rfl rfl rfl rfl rfl rfl rfl rfl rfl rfl fun w2263 a k e m hH2264 => ?_)
               obtain ⟨F2265, m, hf2266⟩ := (m.sel [0, 1, 2, 3, 4, 5, 6] rfl (by decide)).cls hH2264 hf2252
               have s := s.trans e (fun y hy => (fun y hy => Or.inl hy) y (hsA2257 y hy))
               refine wpList_nil ⟨s, ?_⟩
               refine d_done (by kernel_rfl) ((nm_block (nm_then ?_)))
               exact ⟨u1568, u1570, setx out1572 x2213 x2247, v1573, F2265, w2263, k.keep [1, 2, 5, 6, 8, 9] rfl, m.sel [2, 3, 4, 0] rfl (by decide), hb1569, hb1571, hf2266, h⟩
             refine s_bsN (cs := [.int .i64 u1577]) (ps := [(0, .tmp 96)]) te29 m k rfl rfl rfl rfl rfl rfl rfl (by decide) rfl (by exact (List.forall_mem_cons.2 ⟨rfl, (List.forall_mem_nil _)⟩)) fun g2267 w2268 e2270 a k m e hb2269 hgn2271 => ?_
             have hlo2273 := lo1 (Nat.le_trans s.size hgn2271)
             have hf2272 := ow_bx hb2269 ([u1577] : List Int) rfl rfl rfl
             have s := s.trans e (by simp)
             refine wpList_nil ⟨s, ?_⟩
             obtain ⟨G2274, cs2275, hG2276, hr2277, hp2278, hb2279⟩ := rd_get (Enc.ow_rd hf1576) (ix_some hx2218).2.2
             obtain ⟨v2280, rfl⟩ : ∃ v, cs2275 = [v] := by obtain ⟨_, _, hq, _⟩ := hr2277; exact ⟨_, hq⟩
             refine d_one 11 (by kernel_rfl) rfl ?_
             obtain ⟨G2281, cs2282, hG2283, hr2284, hp2285, hb2286⟩ := rd_get (Enc.ow_rd hf1576) (ix_some hx2218).2.2
             obtain ⟨v2287, rfl⟩ : ∃ v, cs2282 = [v] := by obtain ⟨_, _, hq, _⟩ := hr2284; exact ⟨_, hq⟩
             refine sv k rfl (r_ld1 t129 (hp2285.agr (m.a 3 rfl) hb2286) k rfl rfl) fun a k => wpList_nil ⟨s, ?_⟩
             refine d_one 14 (by kernel_rfl) rfl ?_
             obtain ⟨A2294, B2295, m, hH2296, hO2297, hsA2298, hsB2299⟩ := m.opnS 3 rfl hf1576 hx2218 hp2285 rfl (M' := [([g2267], w2268), ([b18], u1568), ([b35], u1570), (F44, w43), (F2123, u2124)]) rfl
             refine oE h fun x2288 hx2289 h => s_appFN hx2289 te29 rfl m 1 hO2297 (News.rd (Enc.rd_agr (Enc.ow_rd hf2272) (m.a 2 rfl))) rfl rfl k rfl rfl rfl rfl rfl rfl rfl fun v2290 F2291 w2292 a k e m hf2293 hap2300 => ?_
             have hlo2301 : ∀ y ∈ F2291, y ∈ (F1574) ∨ _ ≤ y := fun y hy => (hap2300 y hy).elim (fun hy => (fun y hy => (fun y hy => Or.inl hy) y (hsB2299 y hy)) y hy) (fun h => Or.inr (Nat.le_trans s.size h))
             have s := s.trans e (fun y hy => (fun y hy => Or.inl hy) y (hsB2299 y hy))
             refine wpList_nil ⟨s, ?_⟩
             refine oE h fun x2302 hx2303 h => dt k 15 rfl (by kernel_rfl) rfl s (fun _ _ _ => id) (fun w s => r_ixa (Enc.ow_rd hf1576) hx2218 k ts47 rfl rfl rfl) fun a k => d_one 16 (by kernel_rfl) rfl (s_stH1 (α := List Int) (sz := 1) (cs' := [v2290]) sizeOf29 m 0 hH2296 0 k (rd_c (Enc.ow_rd hf2293)) (rd_o (Enc.ow_rd hf2293)) rfl rfl rfl rfl rfl rfl rfl rfl rfl rfl fun w2304 a k e m hH2305 => ?_)
             obtain ⟨F2306, m, hf2307⟩ := (m.sel [0, 1, 2, 3, 4, 5, 6] rfl (by decide)).cls hH2305 hf2293
             have s := s.trans e (fun y hy => (fun y hy => Or.inl hy) y (hsA2298 y hy))
             refine wpList_nil ⟨s, ?_⟩
             refine d_done (by kernel_rfl) ((nm_block (nm_then ?_)))
             exact ⟨u1568, u1570, setx out1572 x2213 x2288, v1573, F2306, w2304, k.keep [1, 2, 5, 6, 8, 9] rfl, m.sel [2, 3, 4, 0] rfl (by decide), hb1569, hb1571, hf2307, h⟩
           refine wp_region_lit (pN 2 k rfl fun a k => s_bs (cs := [.int .i64 u1577]) (ps := [(0, .tmp 101)]) te29 m k rfl rfl rfl rfl rfl rfl rfl (by decide) rfl (by exact (List.forall_mem_cons.2 ⟨rfl, (List.forall_mem_nil _)⟩)) fun g2308 w2309 e2311 a k m e hb2310 => ?_)
           have hf2312 := ow_bx hb2310 ([u1577] : List Int) rfl rfl rfl
           refine s_bs (cs := [(.slice (some ⟨g2308, 0, none⟩) 1 1)]) (ps := [(0, .tmp 102)]) te47 m k rfl rfl rfl rfl rfl rfl rfl (by decide) rfl (by exact (List.forall_mem_cons.2 ⟨congrArg Array.size (rd_c (Enc.ow_rd hf2312)), (List.forall_mem_nil _)⟩)) fun g2313 w2314 e2316 a k m e hb2315 => oE h fun x2317 hx2318 h => ?_
           have hy2323 := Enc.ow_agr hf2312 (m.a 1 rfl)
           have hn2324 := News.box hb2315 (m.a 0 rfl) (by simp) (m := 1)
           have hA2325 := m.a 4 rfl
           have m := m.sel [4, 1, 0, 2, 3, 5, 6] rfl (by decide)
           have m := m.join2
           refine s_appO (F := F1574) (G := [g2308]) hx2318 te47 rfl m hf1576 hA2325 hn2324 hy2323 (Agr.refl _ _) k rfl rfl rfl rfl rfl rfl fun v2319 F2320 w2321 a k e m hf2322 => pN 1 k rfl fun a k => wpList_nil (nm_block (nm_then ?_))
           exact ⟨u1568, u1570, x2317, v2319, F2320, w2321, k.keep [1, 2, 5, 6, 8, 9] rfl, m.sel [2, 3, 4, 0] rfl (by decide), hb1569, hb1571, hf2322, h⟩
         refine wr (pN 2 k rfl fun a k => nn (cI h k rfl (fun hb2326 h => ?_) fun hb2326 h => ?_))
         · refine wp_region_lit (pN 2 k rfl fun a k => sv k rfl (r_len (α := Int) (Enc.ow_rd hf2125) k underlying29 rfl rfl) fun a k => pN 3 k rfl fun a k => nn ?_)
           exact ⟨w64 ((w64 (pick2207 + ((list2121.length : Int)))) + 1), k.keep [1, 2, 5, 6, 8, 9, 10, 12] rfl, m.sel [0, 1, 2, 3, 4] rfl (by decide), h⟩
         refine wp_skip (nm_then ?_)
         exact ⟨pick2207, k.keep [1, 2, 5, 6, 8, 9, 10, 12] rfl, m.sel [0, 1, 2, 3, 4] rfl (by decide), h⟩
       refine wr (pN 2 k rfl fun a k => sv k rfl (r_len (α := Int) hp8 k underlying29 rfl rfl) fun a k => pN 1 k rfl fun a k => nn (cI h k rfl (fun hb2327 h => ?_) fun hb2327 h => ?_))
       · refine wp_region_lit (pN 2 k rfl fun a k => oE h fun x2328 hx2329 h => sv k rfl (r_ixa hp8 hx2329 k ts29 rfl rfl rfl) fun a k => sv k rfl (r_lde1 hp8 (m.a00 (Enc.rd_lt hp8)) hx2329 0 t13 k rfl rfl rfl rfl) fun a k => pN 1 k rfl fun a k => sv k rfl (r_len (α := Int) (Enc.ow_rd hf2125) k underlying29 rfl rfl) fun a k => pN 1 k rfl fun a k => oE h fun u2330 hx2331 h => sv k rfl (r_rem (odiv_some hx2331) k rfl rfl rfl) fun a k => pN 1 k rfl fun a k => nn ?_)
         exact ⟨Int.tmod x2328 (w64 (((list2121.length : Int)) + 1)), k.keep [1, 2, 5, 6, 8, 9, 10, 12] rfl, m.sel [0, 1, 2, 3, 4] rfl (by decide), h⟩
       refine wp_skip (nm_then ?_)
       exact ⟨0, k.keep [1, 2, 5, 6, 8, 9, 10, 12] rfl, m.sel [0, 1, 2, 3, 4] rfl (by decide), h⟩
     exact ⟨([] : List Int), (.slice (some ⟨g1961, 0, none⟩) 0 0), [g1961], w1962, 0, k.keep [1, 2, 5, 6, 8, 9, 10, 11] rfl, m.sel [1, 2, 4, 3, 0] rfl (by decide), hf1965, h⟩
   refine wp_exit (ex_then (ex_then (ex_same (nm_then ?_))))
   refine wr (pN 2 k rfl fun a k => nn (wp_ret ?_))
   cases h
   exact finR1 k rfl (RV.tmp k rfl) ⟨_, F1574, rfl, m.ext, (Enc.ow_agr hf1576 (m.a 3 rfl)), (m.fresh 3 rfl)⟩
 exact ⟨w20, w38, ([] : List (List Int)), (.slice (some ⟨g21, 0, none⟩) 0 0), [g21], w22, 0, k.keep [1, 2, 5, 6, 8, 9] rfl, m.sel [3, 1, 0, 2] rfl (by decide), hb19, hb39, hf25, h⟩
theorem c_impl_TypeById_1 (fu : Nat) {w0 : World} (t1 : Typ) (x2 : Int) {b3 : Nat} (hp4 : bx w0 b3 [.int .i64 x2] 3) {r : Bool}
    (h : d_impl_TypeById_1 fu t1 x2 = some r) :
    Calls Tryz.prog 141 #[.agg (Flat.e (t1)).toArray, .pointer (some (⟨b3, 0, none⟩ : Addr))] w0 fun e w => e = .returned (.bool (r)) ∧ Ext [] w0 w := by
 refine enter (vs := [_, _]) func141 rfl ntmps141 rfl fun a k => ?_
 have m := St.start w0
 unfold d_impl_TypeById_1 at h
 refine wr (s_box (cs := [.int .i64 t1.fId, .int .i64 t1.fW, .int .i64 t1.fH, .int .i64 t1.fD, .int .i64 t1.fTare, .int .i64 t1.fGram, .int .i64 t1.fCost]) m k rfl rfl rfl rfl rfl rfl fun b5 w7 a k m e hb6 => pN 1 k rfl fun a k => nn (wr (sv k rfl (r_fa fa92_0 k rfl rfl) fun a k => sv k rfl (r_ldb t13 m 0 hb6 0 k rfl rfl rfl rfl rfl) fun a k => sv k rfl (r_ld1 t13 (r := []) (hp4.at (m.a00 hp4.lt1) 0 1 rfl rfl rfl) k rfl rfl) fun a k => pN 2 k rfl fun a k => nn (wp_ret (fS h k m rfl rfl)))))
theorem c_slices_IndexFunc_impl_Type_impl_Type (fu : Nat) {w0 : World} (sv1 : List Typ) (f5 : Typ → Option Bool) {v2 : Value} {F3 : List Nat} (hp4 : rd w0 F3 [v2] sv1) {v6 : Value} (hp7 : FnOk1 Tryz.prog w0 v6 f5) {r : Int}
    (h : d_slices_IndexFunc_impl_Type_impl_Type fu sv1 f5 = some r) :
    Calls Tryz.prog 140 #[v2, v6] w0 fun e w => e = .returned (.int .i64 r) ∧ Ext [] w0 w := by
 refine enter (vs := [_, _]) func140 rfl ntmps140 rfl fun a k => ?_
 have m := St.start w0
 obtain ⟨fid8, cap9, rfl, hcl10, hcc11⟩ := hp7
 unfold d_slices_IndexFunc_impl_Type_impl_Type at h
 refine wr (pN 1 k rfl fun a k => nn (wp_seq (wr (pN 1 k rfl fun a k => sv k rfl (r_len (α := Typ) hp4 k underlying37 rfl rfl) fun a k => pN 1 k rfl fun a k => nn (wp_block (c_loop (fun n a w => ∃ (x32 : Int), K 19 [(0, v2), (1, (.func (.func fid8) #[] cap9.toArray)), (7, .int .i64 ((sv1.length : Int))), (8, .int .i64 x32)] a ∧ St [] w0 w [] ∧ d_slices_IndexFunc_impl_Type_impl_Type_L1 fu sv1 f5 n x32 = some r) ?_ ?_ fu _ _ ?_))))))
 · rintro a w ⟨_, _, _, h⟩
   exact nS h
 · rintro m33 a w31 ⟨x32, k, m, h⟩
   rw [d_slices_IndexFunc_impl_Type_impl_Type_L1_s] at h
   unfold d_slices_IndexFunc_impl_Type_impl_Type_L1_B at h
   refine wr (pN 1 k rfl fun a k => nn (wp_seq (cI h k rfl (fun hb34 h => ?_) fun hb34 h => ?_)))
   · refine wp_skip (nm_then ?_)
     refine wp_seq (wp_block (wr (pN 2 k rfl fun a k => nn (wr (pN 3 k rfl fun a k => oE h fun x35 hx36 h => sv k rfl (r_ixa hp4 hx36 k ts37 rfl rfl rfl) fun a k => sv k rfl (r_lde hp4 (m.a00 (Enc.rd_lt hp4)) hx36 ta92 k rfl rfl) fun a k => oE h fun x37 hx38 h => s_callv k hcl10 rfl rfl rfl rfl rfl rfl (hcc11 _ _ _ _ m.ext rfl hx38) fun e39 w40 hR => ?_)))))
     obtain ⟨rfl, e⟩ := hR
     refine ⟨_, rfl, fun a k => ?_⟩
     have m := m.step e
     refine nn (cI h k rfl (fun hb41 h => ?_) fun hb41 h => ?_)
     · refine wr (pN 2 k rfl fun a k => nn (wp_ret (rt_block (rt_then (rt_then (rt_block (rt_then ?_)))))))
       refine fS h k m rfl rfl
     refine wp_skip (nm_block (nm_then ?_))
     refine wp_region_lit (pN 2 k rfl fun a k => nn ?_)
     exact ⟨w64 (x32 + 1), k.keep [0, 1, 7, 8] rfl, m.sel [] rfl (by decide), h⟩
   refine wp_exit (ex_then (ex_then (ex_same (nm_then ?_))))
   refine wr (pN 1 k rfl fun a k => nn (wp_ret (fS h k m rfl rfl)))
 exact ⟨0, k.keep [0, 1, 7, 8] rfl, m.sel [] rfl (by decide), h⟩
theorem c_impl_TypeById (fu : Nat) {w0 : World} (r1 : Request) (id5 : Int) {cs2 : List Value} {F3 : List Nat} (hp4 : rd w0 F3 cs2 r1) {r : Typ × Bool}
    (h : d_impl_TypeById fu r1 id5 = some r) :
    Calls Tryz.prog 75 #[.agg cs2.toArray, .int .i64 id5] w0 fun e w => e = .returned (.tuple #[.agg (Flat.e r.1).toArray, .bool (r.2)]) ∧ Ext [] w0 w := by
 refine enter (vs := [_, _]) func75 rfl ntmps75 rfl fun a k => ?_
 have m := St.start w0
 obtain ⟨v6, F7, v8, F9, v10, F11, rfl, rfl, hf12, hf13, hf14⟩ := hp4
 unfold d_impl_TypeById at h
 refine wr (s_box (cs := [.int .i64 r1.fWay, .int .i64 r1.fPallet.fW, .int .i64 r1.fPallet.fD, .int .i64 r1.fPallet.fH, .int .i64 r1.fPallet.fGram, .int .i64 r1.fClasses, v6, v8, .int .i64 r1.fMaster, v10]) m k rfl rfl rfl rfl rfl rfl fun b15 w17 a k m e hb16 => s_box (cs := [.int .i64 id5]) m k rfl rfl rfl rfl rfl rfl fun b18 w20 a k m e hb19 => s_alloc (cs := [.int .i64 0, .int .i64 0, .int .i64 0, .int .i64 0, .int .i64 0, .int .i64 0, .int .i64 0]) m k zeroValue92 rfl rfl rfl rfl rfl fun b21 w23 a k m e hb22 => pN 1 k rfl fun a k => nn (wr (sv k rfl (r_fa fa40_4 k rfl rfl) fun a k => sv k rfl (r_ldb t137 m 2 hb16 7 k rfl rfl rfl rfl rfl) fun a k => pN 1 k rfl fun a k => oE h fun x27 hx28 h => ?_)))
 refine cE k m call140 rfl rfl rfl (c_slices_IndexFunc_impl_Type_impl_Type fu _ _ (Enc.rd_agr hf13 (m.a00 (Enc.rd_lt hf13))) ⟨141, [.pointer (some (⟨b18, 0, none⟩ : Addr))], rfl, call141, fun w y24 v25 r e hv26 hx => by subst hv26; have m := m.step e; exact c_impl_TypeById_1 fu _ _ (hb19.agr (m.a 1 rfl) (by simp)) hx⟩ hx28) fun w30 e a k m => pN 1 k rfl fun a k => nn (wp_seq (wr (pN 2 k rfl fun a k => nn (cI h k rfl (fun hb31 h => ?_) fun hb31 h => ?_))))
 · refine wr (sv k rfl (r_build bt92 k (ps := []) rfl rfl rfl) fun a k => s_stb (cs' := [.int .i64 0, .int .i64 0, .int .i64 0, .int .i64 0, .int .i64 0, .int .i64 0, .int .i64 0]) sizeOf92 m 0 hb22 0 k rfl rfl rfl rfl rfl rfl rfl rfl rfl rfl rfl fun w32 a k e m hb33 => pN 1 k rfl fun a k => nn (wp_ret (rt_then ?_)))
   cases h
   exact finR2 k rfl (RV.cA k rfl ta92 (hb33.at (m.a 0 rfl) 0 7 rfl rfl rfl) rfl) (RV.tmp k rfl) ⟨rfl, m.ext⟩
 refine wp_skip (nm_then ?_)
 refine wr (sv k rfl (r_fa fa40_4 k rfl rfl) fun a k => sv k rfl (r_ldb t137 m 2 hb16 7 k rfl rfl rfl rfl rfl) fun a k => pN 1 k rfl fun a k => oE h fun x34 hx35 h => sv k rfl (r_ixa hf13 hx35 k ts37 rfl rfl rfl) fun a k => sv k rfl (r_lde hf13 (m.a00 (Enc.rd_lt hf13)) hx35 ta92 k rfl rfl) fun a k => s_stb (cs' := [.int .i64 x34.fId, .int .i64 x34.fW, .int .i64 x34.fH, .int .i64 x34.fD, .int .i64 x34.fTare, .int .i64 x34.fGram, .int .i64 x34.fCost]) sizeOf92 m 0 hb22 0 k rfl rfl rfl rfl rfl rfl rfl rfl rfl rfl rfl fun w36 a k e m hb37 => pN 1 k rfl fun a k => nn (wp_ret ?_))
 cases h
 exact finR2 k rfl (RV.cA k rfl ta92 (hb37.at (m.a 0 rfl) 0 7 rfl rfl rfl) rfl) (RV.tmp k rfl) ⟨rfl, m.ext⟩
theorem c_impl_MasterOf (fu : Nat) {w0 : World} (r1 : Request) {cs2 : List Value} {F3 : List Nat} (hp4 : rd w0 F3 cs2 r1) {r : Typ × Bool}
    (h : d_impl_MasterOf fu r1 = some r) :
    Calls Tryz.prog 148 #[.agg cs2.toArray] w0 fun e w => e = .returned (.tuple #[.agg (Flat.e r.1).toArray, .bool (r.2)]) ∧ Ext [] w0 w := by
 refine enter (vs := [_]) func148 rfl ntmps148 rfl fun a k => ?_
 have m := St.start w0
 obtain ⟨v5, F6, v7, F8, v9, F10, rfl, rfl, hf11, hf12, hf13⟩ := hp4
 unfold d_impl_MasterOf at h
 refine wr (s_box (cs := [.int .i64 r1.fWay, .int .i64 r1.fPallet.fW, .int .i64 r1.fPallet.fD, .int .i64 r1.fPallet.fH, .int .i64 r1.fPallet.fGram, .int .i64 r1.fClasses, v5, v7, .int .i64 r1.fMaster, v9]) m k rfl rfl rfl rfl rfl rfl fun b14 w16 a k m e hb15 => s_alloc (cs := [.int .i64 0, .int .i64 0, .int .i64 0, .int .i64 0, .int .i64 0, .int .i64 0, .int .i64 0]) m k zeroValue92 rfl rfl rfl rfl rfl fun b17 w19 a k m e hb18 => pN 1 k rfl fun a k => nn (wr (sv k rfl (r_ldB ta40 m 1 hb15 0 k rfl rfl rfl rfl rfl rfl) fun a k => sv k rfl (r_fa fa40_5 k rfl rfl) fun a k => sv k rfl (r_ldb t13 m 1 hb15 8 k rfl rfl rfl rfl rfl) fun a k => oE h fun x20 hx21 h => ?_)))
 refine cE k m call75 rfl rfl rfl (c_impl_TypeById fu _ _ (show rd _ _ [.int .i64 r1.fWay, .int .i64 r1.fPallet.fW, .int .i64 r1.fPallet.fD, .int .i64 r1.fPallet.fH, .int .i64 r1.fPallet.fGram, .int .i64 r1.fClasses, v5, v7, .int .i64 r1.fMaster, v9] (r1 : Request) from ⟨_, _, _, _, _, _, rfl, rfl, (Enc.rd_agr hf11 (m.a00 (Enc.rd_lt hf11))), (Enc.rd_agr hf12 (m.a00 (Enc.rd_lt hf12))), (Enc.rd_agr hf13 (m.a00 (Enc.rd_lt hf13)))⟩) hx21) fun w23 e a k m => pN 2 k rfl fun a k => s_stb (cs' := [.int .i64 x20.1.fId, .int .i64 x20.1.fW, .int .i64 x20.1.fH, .int .i64 x20.1.fD, .int .i64 x20.1.fTare, .int .i64 x20.1.fGram, .int .i64 x20.1.fCost]) sizeOf92 m 0 hb18 0 k rfl rfl rfl rfl rfl rfl rfl rfl rfl rfl rfl fun w24 a k e m hb25 => pN 1 k rfl fun a k => nn (wp_ret ?_)
 cases h
 exact finR2 k rfl (RV.cA k rfl ta92 (hb25.at (m.a 0 rfl) 0 7 rfl rfl rfl) rfl) (RV.tmp k rfl) ⟨rfl, m.ext⟩
theorem c_impl_in (fu : Nat) {w0 : World} (n1 : Int) (lo2 : Int) (hi3 : Int)  {r : Bool}
    (h : d_impl_in fu n1 lo2 hi3 = some r) :
    Calls Tryz.prog 99 #[.int .i64 n1, .int .i64 lo2, .int .i64 hi3] w0 fun e w => e = .returned (.bool (r)) ∧ Ext [] w0 w := by
 refine enter (vs := [_, _, _]) func99 rfl ntmps99 rfl fun a k => ?_
 have m := St.start w0
 unfold d_impl_in at h
 refine wr (pN 1 k rfl fun a k => nn (wr (pN 4 k rfl fun a k => bsplit (decide (n1 ≥ lo2)) (fun hb4 => ?_) (fun hb4 => ?_))))
 · have h := bif_t hb4 h
   refine rB k 10 rfl hb4 fun k => pN 5 k rfl fun a k => nn (wp_ret (fS h k m rfl rfl))
 have h := bif_f hb4 h
 refine rB k 10 rfl hb4 fun k => pN 5 k rfl fun a k => nn (wp_ret (fS h k m rfl rfl))
theorem c_impl_isSide (fu : Nat) {w0 : World} (n1 : Int)  {r : Bool}
    (h : d_impl_isSide fu n1 = some r) :
    Calls Tryz.prog 224 #[.int .i64 n1] w0 fun e w => e = .returned (.bool (r)) ∧ Ext [] w0 w := by
 refine enter (vs := [_]) func224 rfl ntmps224 rfl fun a k => ?_
 have m := St.start w0
 unfold d_impl_isSide at h
 refine wr (pN 1 k rfl fun a k => nn (wr (pN 1 k rfl fun a k => oE h fun x2 hx3 h => cE k m call99 rfl rfl rfl (c_impl_in fu _ _ _  hx3) fun w5 e a k m => pN 1 k rfl fun a k => nn (wp_ret (fS h k m rfl rfl)))))
theorem c_impl_PalletOk (fu : Nat) {w0 : World} (x1 : Pallet)  {r : Bool}
    (h : d_impl_PalletOk fu x1 = some r) :
    Calls Tryz.prog 199 #[.agg (Flat.e (x1)).toArray] w0 fun e w => e = .returned (.bool (r)) ∧ Ext [] w0 w := by
 refine enter (vs := [_]) func199 rfl ntmps199 rfl fun a k => ?_
 have m := St.start w0
 unfold d_impl_PalletOk at h
 refine wr (s_box (cs := [.int .i64 x1.fW, .int .i64 x1.fD, .int .i64 x1.fH, .int .i64 x1.fGram]) m k rfl rfl rfl rfl rfl rfl fun b2 w4 a k m e hb3 => pN 1 k rfl fun a k => nn (wr (sv k rfl (r_fa fa35_0 k rfl rfl) fun a k => sv k rfl (r_ldb t13 m 0 hb3 0 k rfl rfl rfl rfl rfl) fun a k => oE h fun x5 hx6 h => cE k m call224 rfl rfl rfl (c_impl_isSide fu _  hx6) fun w8 e a k m => pN 1 k rfl fun a k => bsplit (x5) (fun hb9 => ?_) (fun hb9 => ?_))))
 · have h := bif_t hb9 h
   refine rB k 6 rfl hb9 fun k => sv k rfl (r_fa fa35_1 k rfl rfl) fun a k => sv k rfl (r_ldb t13 m 0 hb3 1 k rfl rfl rfl rfl rfl) fun a k => oE h fun x10 hx11 h => cE k m call224 rfl rfl rfl (c_impl_isSide fu _  hx11) fun w13 e a k m => pN 2 k rfl fun a k => bsplit (x10) (fun hb14 => ?_) (fun hb14 => ?_)
   · have h := bif_t hb14 h
     refine rB k 11 rfl hb14 fun k => sv k rfl (r_fa fa35_2 k rfl rfl) fun a k => sv k rfl (r_ldb t13 m 0 hb3 2 k rfl rfl rfl rfl rfl) fun a k => oE h fun x15 hx16 h => cE k m call224 rfl rfl rfl (c_impl_isSide fu _  hx16) fun w18 e a k m => pN 2 k rfl fun a k => bsplit (x15) (fun hb19 => ?_) (fun hb19 => ?_)
     · have h := bif_t hb19 h
       refine rB k 16 rfl hb19 fun k => sv k rfl (r_fa fa35_3 k rfl rfl) fun a k => sv k rfl (r_ldb t13 m 0 hb3 3 k rfl rfl rfl rfl rfl) fun a k => oE h fun x20 hx21 h => cE k m call99 rfl rfl rfl (c_impl_in fu _ _ _  hx21) fun w23 e a k m => pN 2 k rfl fun a k => nn (wp_ret (fS h k m rfl rfl))
     have h := bif_f hb19 h
     refine rB k 16 rfl hb19 fun k => pN 5 k rfl fun a k => nn (wp_ret (fS h k m rfl rfl))
   have h := bif_f hb14 h
   refine rB k 11 rfl hb14 fun k => pN 10 k rfl fun a k => nn (wp_ret (fS h k m rfl rfl))
 have h := bif_f hb9 h
 refine rB k 6 rfl hb9 fun k => pN 15 k rfl fun a k => nn (wp_ret (fS h k m rfl rfl))
theorem c_slices_IndexFunc_impl_Pair_impl_Pair (fu : Nat) {w0 : World} (sv1 : List Pair) (f5 : Pair → Option Bool) {v2 : Value} {F3 : List Nat} (hp4 : rd w0 F3 [v2] sv1) {v6 : Value} (hp7 : FnOk1 Tryz.prog w0 v6 f5) {r : Int}
    (h : d_slices_IndexFunc_impl_Pair_impl_Pair fu sv1 f5 = some r) :
    Calls Tryz.prog 225 #[v2, v6] w0 fun e w => e = .returned (.int .i64 r) ∧ Ext [] w0 w := by
 refine enter (vs := [_, _]) func225 rfl ntmps225 rfl fun a k => ?_
 have m := St.start w0
 obtain ⟨fid8, cap9, rfl, hcl10, hcc11⟩ := hp7
 unfold d_slices_IndexFunc_impl_Pair_impl_Pair at h
 refine wr (pN 1 k rfl fun a k => nn (wp_seq (wr (pN 1 k rfl fun a k => sv k rfl (r_len (α := Pair) hp4 k underlying36 rfl rfl) fun a k => pN 1 k rfl fun a k => nn (wp_block (c_loop (fun n a w => ∃ (x32 : Int), K 19 [(0, v2), (1, (.func (.func fid8) #[] cap9.toArray)), (7, .int .i64 ((sv1.length : Int))), (8, .int .i64 x32)] a ∧ St [] w0 w [] ∧ d_slices_IndexFunc_impl_Pair_impl_Pair_L1 fu sv1 f5 n x32 = some r) ?_ ?_ fu _ _ ?_))))))
 · rintro a w ⟨_, _, _, h⟩
   exact nS h
 · rintro m33 a w31 ⟨x32, k, m, h⟩
   rw [d_slices_IndexFunc_impl_Pair_impl_Pair_L1_s] at h
   unfold d_slices_IndexFunc_impl_Pair_impl_Pair_L1_B at h
   refine wr (pN 1 k rfl fun a k => nn (wp_seq (cI h k rfl (fun hb34 h => ?_) fun hb34 h => ?_)))
   · refine wp_skip (nm_then ?_)
     refine wp_seq (wp_block (wr (pN 2 k rfl fun a k => nn (wr (pN 3 k rfl fun a k => oE h fun x35 hx36 h => sv k rfl (r_ixa hp4 hx36 k ts36 rfl rfl rfl) fun a k => sv k rfl (r_lde hp4 (m.a00 (Enc.rd_lt hp4)) hx36 ta144 k rfl rfl) fun a k => oE h fun x37 hx38 h => s_callv k hcl10 rfl rfl rfl rfl rfl rfl (hcc11 _ _ _ _ m.ext rfl hx38) fun e39 w40 hR => ?_)))))
     obtain ⟨rfl, e⟩ := hR
     refine ⟨_, rfl, fun a k => ?_⟩
     have m := m.step e
     refine nn (cI h k rfl (fun hb41 h => ?_) fun hb41 h => ?_)
     · refine wr (pN 2 k rfl fun a k => nn (wp_ret (rt_block (rt_then (rt_then (rt_block (rt_then ?_)))))))
       refine fS h k m rfl rfl
     refine wp_skip (nm_block (nm_then ?_))
     refine wp_region_lit (pN 2 k rfl fun a k => nn ?_)
     exact ⟨w64 (x32 + 1), k.keep [0, 1, 7, 8] rfl, m.sel [] rfl (by decide), h⟩
   refine wp_exit (ex_then (ex_then (ex_same (nm_then ?_))))
   refine wr (pN 1 k rfl fun a k => nn (wp_ret (fS h k m rfl rfl)))
 exact ⟨0, k.keep [0, 1, 7, 8] rfl, m.sel [] rfl (by decide), h⟩
theorem c_slices_ContainsFunc_impl_Pair_impl_Pair (fu : Nat) {w0 : World} (sv1 : List Pair) (f5 : Pair → Option Bool) {v2 : Value} {F3 : List Nat} (hp4 : rd w0 F3 [v2] sv1) {v6 : Value} (hp7 : FnOk1 Tryz.prog w0 v6 f5) {r : Bool}
    (h : d_slices_ContainsFunc_impl_Pair_impl_Pair fu sv1 f5 = some r) :
    Calls Tryz.prog 200 #[v2, v6] w0 fun e w => e = .returned (.bool (r)) ∧ Ext [] w0 w := by
 refine enter (vs := [_, _]) func200 rfl ntmps200 rfl fun a k => ?_
 have m := St.start w0
 obtain ⟨fid8, cap9, rfl, hcl10, hcc11⟩ := hp7
 unfold d_slices_ContainsFunc_impl_Pair_impl_Pair at h
 refine wr (pN 1 k rfl fun a k => nn (wr (pN 2 k rfl fun a k => oE h fun x14 hx15 h => cE k m call225 rfl rfl rfl (c_slices_IndexFunc_impl_Pair_impl_Pair fu _ _ (Enc.rd_agr hp4 (m.a00 (Enc.rd_lt hp4))) ⟨_, _, rfl, hcl10, fun w y12 v13 r e => hcc11 w y12 v13 r (m.ext.trans e (by simp))⟩ hx15) fun w17 e a k m => pN 2 k rfl fun a k => nn (wp_ret (fS h k m rfl rfl)))))
theorem c_impl_BoundsOk_1 (fu : Nat) {w0 : World} (p1 : Pair)  {r : Bool}
    (h : d_impl_BoundsOk_1 fu p1 = some r) :
    Calls Tryz.prog 201 #[.agg (Flat.e (p1)).toArray] w0 fun e w => e = .returned (.bool (r)) ∧ Ext [] w0 w := by
 refine enter (vs := [_]) func201 rfl ntmps201 rfl fun a k => ?_
 have m := St.start w0
 unfold d_impl_BoundsOk_1 at h
 refine wr (s_box (cs := [.int .i64 p1.fA, .int .i64 p1.fB]) m k rfl rfl rfl rfl rfl rfl fun b2 w4 a k m e hb3 => pN 1 k rfl fun a k => nn (wr (sv k rfl (r_fa fa144_0 k rfl rfl) fun a k => sv k rfl (r_ldb t13 m 0 hb3 0 k rfl rfl rfl rfl rfl) fun a k => oE h fun x5 hx6 h => cE k m call99 rfl rfl rfl (c_impl_in fu _ _ _  hx6) fun w8 e a k m => pN 2 k rfl fun a k => bsplit (!x5) (fun hb9 => ?_) (fun hb9 => ?_))))
 · have h := bif_t hb9 h
   refine rB k 7 rfl hb9 fun k => pN 6 k rfl fun a k => nn (wp_ret (fS h k m rfl rfl))
 have h := bif_f hb9 h
 refine rB k 7 rfl hb9 fun k => sv k rfl (r_fa fa144_1 k rfl rfl) fun a k => sv k rfl (r_ldb t13 m 0 hb3 1 k rfl rfl rfl rfl rfl) fun a k => oE h fun x10 hx11 h => cE k m call99 rfl rfl rfl (c_impl_in fu _ _ _  hx11) fun w13 e a k m => pN 3 k rfl fun a k => nn (wp_ret (fS h k m rfl rfl))
theorem c_slices_ContainsFunc_impl_Type_impl_Type (fu : Nat) {w0 : World} (sv1 : List Typ) (f5 : Typ → Option Bool) {v2 : Value} {F3 : List Nat} (hp4 : rd w0 F3 [v2] sv1) {v6 : Value} (hp7 : FnOk1 Tryz.prog w0 v6 f5) {r : Bool}
    (h : d_slices_ContainsFunc_impl_Type_impl_Type fu sv1 f5 = some r) :
    Calls Tryz.prog 184 #[v2, v6] w0 fun e w => e = .returned (.bool (r)) ∧ Ext [] w0 w := by
 refine enter (vs := [_, _]) func184 rfl ntmps184 rfl fun a k => ?_
 have m := St.start w0
 obtain ⟨fid8, cap9, rfl, hcl10, hcc11⟩ := hp7
 unfold d_slices_ContainsFunc_impl_Type_impl_Type at h
 refine wr (pN 1 k rfl fun a k => nn (wr (pN 2 k rfl fun a k => oE h fun x14 hx15 h => cE k m call140 rfl rfl rfl (c_slices_IndexFunc_impl_Type_impl_Type fu _ _ (Enc.rd_agr hp4 (m.a00 (Enc.rd_lt hp4))) ⟨_, _, rfl, hcl10, fun w y12 v13 r e => hcc11 w y12 v13 r (m.ext.trans e (by simp))⟩ hx15) fun w17 e a k m => pN 2 k rfl fun a k => nn (wp_ret (fS h k m rfl rfl)))))
theorem c_impl_TypeOk (fu : Nat) {w0 : World} (x1 : Typ)  {r : Bool}
    (h : d_impl_TypeOk fu x1 = some r) :
    Calls Tryz.prog 203 #[.agg (Flat.e (x1)).toArray] w0 fun e w => e = .returned (.bool (r)) ∧ Ext [] w0 w := by
 refine enter (vs := [_]) func203 rfl ntmps203 rfl fun a k => ?_
 have m := St.start w0
 unfold d_impl_TypeOk at h
 refine wr (s_box (cs := [.int .i64 x1.fId, .int .i64 x1.fW, .int .i64 x1.fH, .int .i64 x1.fD, .int .i64 x1.fTare, .int .i64 x1.fGram, .int .i64 x1.fCost]) m k rfl rfl rfl rfl rfl rfl fun b2 w4 a k m e hb3 => pN 1 k rfl fun a k => nn (wr (sv k rfl (r_fa fa92_0 k rfl rfl) fun a k => sv k rfl (r_ldb t13 m 0 hb3 0 k rfl rfl rfl rfl rfl) fun a k => oE h fun x5 hx6 h => cE k m call99 rfl rfl rfl (c_impl_in fu _ _ _  hx6) fun w8 e a k m => pN 1 k rfl fun a k => bsplit (x5) (fun hb9 => ?_) (fun hb9 => ?_))))
 · have h := bif_t hb9 h
   refine rB k 6 rfl hb9 fun k => sv k rfl (r_fa fa92_1 k rfl rfl) fun a k => sv k rfl (r_ldb t13 m 0 hb3 1 k rfl rfl rfl rfl rfl) fun a k => oE h fun x10 hx11 h => cE k m call224 rfl rfl rfl (c_impl_isSide fu _  hx11) fun w13 e a k m => pN 2 k rfl fun a k => bsplit (x10) (fun hb14 => ?_) (fun hb14 => ?_)
   · have h := bif_t hb14 h
     refine rB k 11 rfl hb14 fun k => sv k rfl (r_fa fa92_2 k rfl rfl) fun a k => sv k rfl (r_ldb t13 m 0 hb3 2 k rfl rfl rfl rfl rfl) fun a k => oE h fun x15 hx16 h => cE k m call224 rfl rfl rfl (c_impl_isSide fu _  hx16) fun w18 e a k m => pN 2 k rfl fun a k => bsplit (x15) (fun hb19 => ?_) (fun hb19 => ?_)
     · have h := bif_t hb19 h
       refine rB k 16 rfl hb19 fun k => sv k rfl (r_fa fa92_3 k rfl rfl) fun a k => sv k rfl (r_ldb t13 m 0 hb3 3 k rfl rfl rfl rfl rfl) fun a k => oE h fun x20 hx21 h => cE k m call224 rfl rfl rfl (c_impl_isSide fu _  hx21) fun w23 e a k m => pN 2 k rfl fun a k => bsplit (x20) (fun hb24 => ?_) (fun hb24 => ?_)
       · have h := bif_t hb24 h
         refine rB k 21 rfl hb24 fun k => sv k rfl (r_fa fa92_4 k rfl rfl) fun a k => sv k rfl (r_ldb t13 m 0 hb3 4 k rfl rfl rfl rfl rfl) fun a k => oE h fun x25 hx26 h => cE k m call99 rfl rfl rfl (c_impl_in fu _ _ _  hx26) fun w28 e a k m => pN 2 k rfl fun a k => bsplit (x25) (fun hb29 => ?_) (fun hb29 => ?_)
         · have h := bif_t hb29 h
           refine rB k 26 rfl hb29 fun k => sv k rfl (r_fa fa92_5 k rfl rfl) fun a k => sv k rfl (r_ldb t13 m 0 hb3 5 k rfl rfl rfl rfl rfl) fun a k => oE h fun x30 hx31 h => cE k m call99 rfl rfl rfl (c_impl_in fu _ _ _  hx31) fun w33 e a k m => pN 2 k rfl fun a k => bsplit (x30) (fun hb34 => ?_) (fun hb34 => ?_)
           · have h := bif_t hb34 h
             refine rB k 31 rfl hb34 fun k => sv k rfl (r_fa fa92_6 k rfl rfl) fun a k => sv k rfl (r_ldb t13 m 0 hb3 6 k rfl rfl rfl rfl rfl) fun a k => oE h fun x35 hx36 h => cE k m call99 rfl rfl rfl (c_impl_in fu _ _ _  hx36) fun w38 e a k m => pN 2 k rfl fun a k => ?_
             have k := k.keep [2] rfl
             refine nn (wp_ret (fS h k m rfl rfl))
           have h := bif_f hb34 h
           refine rB k 31 rfl hb34 fun k => pN 5 k rfl fun a k => ?_
           have k := k.keep [2] rfl
           refine nn (wp_ret (fS h k m rfl rfl))
         have h := bif_f hb29 h
         refine rB k 26 rfl hb29 fun k => pN 10 k rfl fun a k => ?_
         have k := k.keep [2] rfl
         refine nn (wp_ret (fS h k m rfl rfl))
       have h := bif_f hb24 h
       refine rB k 21 rfl hb24 fun k => pN 15 k rfl fun a k => ?_
       have k := k.keep [2] rfl
       refine nn (wp_ret (fS h k m rfl rfl))
     have h := bif_f hb19 h
     refine rB k 16 rfl hb19 fun k => pN 20 k rfl fun a k => ?_
     have k := k.keep [2] rfl
     refine nn (wp_ret (fS h k m rfl rfl))
   have h := bif_f hb14 h
   refine rB k 11 rfl hb14 fun k => pN 25 k rfl fun a k => ?_
   have k := k.keep [2] rfl
   refine nn (wp_ret (fS h k m rfl rfl))
 have h := bif_f hb9 h
 refine rB k 6 rfl hb9 fun k => pN 30 k rfl fun a k => ?_
 have k := k.keep [2] rfl
 refine nn (wp_ret (fS h k m rfl rfl))
theorem c_impl_BoundsOk_2 (fu : Nat) {w0 : World} (t1 : Typ)  {r : Bool}
    (h : d_impl_BoundsOk_2 fu t1 = some r) :
    Calls Tryz.prog 202 #[.agg (Flat.e (t1)).toArray] w0 fun e w => e = .returned (.bool (r)) ∧ Ext [] w0 w := by
 refine enter (vs := [_]) func202 rfl ntmps202 rfl fun a k => ?_
 have m := St.start w0
 unfold d_impl_BoundsOk_2 at h
 refine wr (s_box (cs := [.int .i64 t1.fId, .int .i64 t1.fW, .int .i64 t1.fH, .int .i64 t1.fD, .int .i64 t1.fTare, .int .i64 t1.fGram, .int .i64 t1.fCost]) m k rfl rfl rfl rfl rfl rfl fun b2 w4 a k m e hb3 => pN 1 k rfl fun a k => nn (wr (sv k rfl (r_ldB ta92 m 0 hb3 0 k rfl rfl rfl rfl rfl rfl) fun a k => oE h fun x5 hx6 h => cE k m call203 rfl rfl rfl (c_impl_TypeOk fu (t1 : Typ)  hx6) fun w8 e a k m => pN 2 k rfl fun a k => nn (wp_ret (fS h k m rfl rfl)))))
theorem c_impl_ItemOk (fu : Nat) {w0 : World} (x1 : Item)  {r : Bool}
    (h : d_impl_ItemOk fu x1 = some r) :
    Calls Tryz.prog 204 #[.agg (Flat.e (x1)).toArray] w0 fun e w => e = .returned (.bool (r)) ∧ Ext [] w0 w := by
 refine enter (vs := [_]) func204 rfl ntmps204 rfl fun a k => ?_
 have m := St.start w0
 unfold d_impl_ItemOk at h
 refine wr (s_box (cs := [.int .i64 x1.fId, .int .i64 x1.fW, .int .i64 x1.fH, .int .i64 x1.fD, .int .i64 x1.fGram, .int .i64 x1.fClass, .int .i64 x1.fCount]) m k rfl rfl rfl rfl rfl rfl fun b2 w4 a k m e hb3 => pN 1 k rfl fun a k => nn (wr (sv k rfl (r_fa fa120_0 k rfl rfl) fun a k => sv k rfl (r_ldb t13 m 0 hb3 0 k rfl rfl rfl rfl rfl) fun a k => oE h fun x5 hx6 h => cE k m call99 rfl rfl rfl (c_impl_in fu _ _ _  hx6) fun w8 e a k m => pN 1 k rfl fun a k => bsplit (x5) (fun hb9 => ?_) (fun hb9 => ?_))))
 · have h := bif_t hb9 h
   refine rB k 6 rfl hb9 fun k => sv k rfl (r_fa fa120_1 k rfl rfl) fun a k => sv k rfl (r_ldb t13 m 0 hb3 1 k rfl rfl rfl rfl rfl) fun a k => oE h fun x10 hx11 h => cE k m call224 rfl rfl rfl (c_impl_isSide fu _  hx11) fun w13 e a k m => pN 2 k rfl fun a k => bsplit (x10) (fun hb14 => ?_) (fun hb14 => ?_)
   · have h := bif_t hb14 h
     refine rB k 11 rfl hb14 fun k => sv k rfl (r_fa fa120_2 k rfl rfl) fun a k => sv k rfl (r_ldb t13 m 0 hb3 2 k rfl rfl rfl rfl rfl) fun a k => oE h fun x15 hx16 h => cE k m call224 rfl rfl rfl (c_impl_isSide fu _  hx16) fun w18 e a k m => pN 2 k rfl fun a k => bsplit (x15) (fun hb19 => ?_) (fun hb19 => ?_)
     · have h := bif_t hb19 h
       refine rB k 16 rfl hb19 fun k => sv k rfl (r_fa fa120_3 k rfl rfl) fun a k => sv k rfl (r_ldb t13 m 0 hb3 3 k rfl rfl rfl rfl rfl) fun a k => oE h fun x20 hx21 h => cE k m call224 rfl rfl rfl (c_impl_isSide fu _  hx21) fun w23 e a k m => pN 2 k rfl fun a k => bsplit (x20) (fun hb24 => ?_) (fun hb24 => ?_)
       · have h := bif_t hb24 h
         refine rB k 21 rfl hb24 fun k => sv k rfl (r_fa fa120_4 k rfl rfl) fun a k => sv k rfl (r_ldb t13 m 0 hb3 4 k rfl rfl rfl rfl rfl) fun a k => oE h fun x25 hx26 h => cE k m call99 rfl rfl rfl (c_impl_in fu _ _ _  hx26) fun w28 e a k m => pN 2 k rfl fun a k => bsplit (x25) (fun hb29 => ?_) (fun hb29 => ?_)
         · have h := bif_t hb29 h
           refine rB k 26 rfl hb29 fun k => sv k rfl (r_fa fa120_5 k rfl rfl) fun a k => sv k rfl (r_ldb t13 m 0 hb3 5 k rfl rfl rfl rfl rfl) fun a k => oE h fun x30 hx31 h => cE k m call99 rfl rfl rfl (c_impl_in fu _ _ _  hx31) fun w33 e a k m => pN 2 k rfl fun a k => bsplit (x30) (fun hb34 => ?_) (fun hb34 => ?_)
           · have h := bif_t hb34 h
             refine rB k 31 rfl hb34 fun k => sv k rfl (r_fa fa120_6 k rfl rfl) fun a k => sv k rfl (r_ldb t13 m 0 hb3 6 k rfl rfl rfl rfl rfl) fun a k => oE h fun x35 hx36 h => cE k m call99 rfl rfl rfl (c_impl_in fu _ _ _  hx36) fun w38 e a k m => pN 2 k rfl fun a k => ?_
             have k := k.keep [2] rfl
             refine nn (wp_ret (fS h k m rfl rfl))
           have h := bif_f hb34 h
           refine rB k 31 rfl hb34 fun k => pN 5 k rfl fun a k => ?_
           have k := k.keep [2] rfl
           refine nn (wp_ret (fS h k m rfl rfl))
         have h := bif_f hb29 h
         refine rB k 26 rfl hb29 fun k => pN 10 k rfl fun a k => ?_
         have k := k.keep [2] rfl
         refine nn (wp_ret (fS h k m rfl rfl))
       have h := bif_f hb24 h
       refine rB k 21 rfl hb24 fun k => pN 15 k rfl fun a k => ?_
       have k := k.keep [2] rfl
       refine nn (wp_ret (fS h k m rfl rfl))
     have h := bif_f hb19 h
     refine rB k 16 rfl hb19 fun k => pN 20 k rfl fun a k => ?_
     have k := k.keep [2] rfl
     refine nn (wp_ret (fS h k m rfl rfl))
   have h := bif_f hb14 h
   refine rB k 11 rfl hb14 fun k => pN 25 k rfl fun a k => ?_
   have k := k.keep [2] rfl
   refine nn (wp_ret (fS h k m rfl rfl))
 have h := bif_f hb9 h
 refine rB k 6 rfl hb9 fun k => pN 30 k rfl fun a k => ?_
 have k := k.keep [2] rfl
 refine nn (wp_ret (fS h k m rfl rfl))
theorem c_impl_BoundsOk (fu : Nat) {w0 : World} (r1 : Request) {cs2 : List Value} {F3 : List Nat} (hp4 : rd w0 F3 cs2 r1) {r : Bool}
    (h : d_impl_BoundsOk fu r1 = some r) :
    Calls Tryz.prog 179 #[.agg cs2.toArray] w0 fun e w => e = .returned (.bool (r)) ∧ Ext [] w0 w := by
 refine enter (vs := [_]) func179 rfl ntmps179 rfl fun a k => ?_
 have m := St.start w0
 obtain ⟨v5, F6, v7, F8, v9, F10, rfl, rfl, hf11, hf12, hf13⟩ := hp4
 unfold d_impl_BoundsOk at h
 refine wr (s_box (cs := [.int .i64 r1.fWay, .int .i64 r1.fPallet.fW, .int .i64 r1.fPallet.fD, .int .i64 r1.fPallet.fH, .int .i64 r1.fPallet.fGram, .int .i64 r1.fClasses, v5, v7, .int .i64 r1.fMaster, v9]) m k rfl rfl rfl rfl rfl rfl fun b14 w16 a k m e hb15 => pN 1 k rfl fun a k => nn (c_cut (fun a w => K 70 [(1, .pointer (some (⟨b14, 0, none⟩ : Addr)))] a ∧ St [] w0 w [([b14], w16)] ∧ d_impl_BoundsOk_J2 fu r1 = some r) ?_ ?_))
 · rintro a w33 ⟨k, m, h⟩
   unfold d_impl_BoundsOk_J2 at h
   refine wp_seq (wr (sv k rfl (r_fa fa40_3 k rfl rfl) fun a k => sv k rfl (r_ldb t136 m 0 hb15 6 k rfl rfl rfl rfl rfl) fun a k => oE h fun x37 hx38 h => cE k m call200 rfl rfl rfl (c_slices_ContainsFunc_impl_Pair_impl_Pair fu _ _ (Enc.rd_agr hf11 (m.a00 (Enc.rd_lt hf11))) ⟨201, [], rfl, call201, fun w y34 v35 r e hv36 hx => by subst hv36; have m := m.step e; exact c_impl_BoundsOk_1 fu _  hx⟩ hx38) fun w40 e a k m => nn (cI h k rfl (fun hb41 h => ?_) fun hb41 h => ?_)))
   · refine wr (pN 1 k rfl fun a k => nn (wp_ret (rt_then ?_)))
     refine fS h k m rfl rfl
   refine wp_skip (nm_then ?_)
   refine c_cut (fun a w => K 70 [(1, .pointer (some (⟨b14, 0, none⟩ : Addr)))] a ∧ St [] w0 w [([b14], w16)] ∧ d_impl_BoundsOk_J1 fu r1 = some r) ?_ ?_
   · rintro a w61 ⟨k, m, h⟩
     unfold d_impl_BoundsOk_J1 at h
     refine wr (pN 1 k rfl fun a k => nn (wp_seq (wr (sv k rfl (r_fa fa40_6 k rfl rfl) fun a k => sv k rfl (r_ldb t138 m 0 hb15 9 k rfl rfl rfl rfl rfl) fun a k => sv k rfl (r_len (α := Item) hf13 k underlying38 rfl rfl) fun a k => pN 1 k rfl fun a k => nn (wp_block (c_loop (fun n a w => ∃ (units93 : Int) (x94 : Int), K 70 [(3, .int .i64 units93), (54, v9), (55, .int .i64 ((r1.fItems.length : Int))), (56, .int .i64 x94)] a ∧ St [] w0 w [] ∧ d_impl_BoundsOk_L1 fu r1 n units93 x94 = some r) ?_ ?_ fu _ _ ?_))))))
     · rintro a w ⟨_, _, _, _, h⟩
       exact nS h
     · rintro m95 a w92 ⟨units93, x94, k, m, h⟩
       rw [d_impl_BoundsOk_L1_s] at h
       unfold d_impl_BoundsOk_L1_B at h
       refine wr (pN 1 k rfl fun a k => nn (wp_seq (cI h k rfl (fun hb96 h => ?_) fun hb96 h => ?_)))
       · refine wp_skip (nm_then ?_)
         refine wp_seq (wp_block (wr (oE h fun x97 hx98 h => sv k rfl (r_ixa hf13 hx98 k ts38 rfl rfl rfl) fun a k => sv k rfl (r_lde hf13 (m.a00 (Enc.rd_lt hf13)) hx98 ta120 k rfl rfl) fun a k => s_alloc (cs := [.int .i64 0, .int .i64 0, .int .i64 0, .int .i64 0, .int .i64 0, .int .i64 0, .int .i64 0]) m k zeroValue120 rfl rfl rfl rfl rfl fun b99 w101 a k m e hb100 => s_stb (cs' := [.int .i64 x97.fId, .int .i64 x97.fW, .int .i64 x97.fH, .int .i64 x97.fD, .int .i64 x97.fGram, .int .i64 x97.fClass, .int .i64 x97.fCount]) sizeOf120 m 0 hb100 0 k rfl rfl rfl rfl rfl rfl rfl rfl rfl rfl rfl fun w102 a k e m hb103 => nn (wp_seq (wr (sv k rfl (r_ldB ta120 m 0 hb103 0 k rfl rfl rfl rfl rfl rfl) fun a k => oE h fun x104 hx105 h => cE k m call204 rfl rfl rfl (c_impl_ItemOk fu (x97 : Item)  hx105) fun w107 e a k m => ?_))))))
         refine pN 1 k rfl fun a k => nn (cI h k rfl (fun hb108 h => ?_) fun hb108 h => ?_)
         · refine wr (pN 1 k rfl fun a k => nn (wp_ret (rt_then (rt_block (rt_then (rt_then (rt_block (rt_then ?_))))))))
           refine fS h k m rfl rfl
         refine wp_skip (nm_then ?_)
         refine wp_region_lit (pN 1 k rfl fun a k => sv k rfl (r_fa fa120_6 k rfl rfl) fun a k => sv k rfl (r_ldb t13 m 0 hb103 6 k rfl rfl rfl rfl rfl) fun a k => pN 2 k rfl fun a k => wpList_nil (nm_block (nm_then ?_)))
         refine wp_region_lit (pN 2 k rfl fun a k => nn ?_)
         exact ⟨w64 (units93 + x97.fCount), w64 (x94 + 1), k.keep [3, 54, 55, 56] rfl, m.sel [] rfl (by decide), h⟩
       refine wp_exit (ex_then (ex_then (ex_same (nm_then ?_))))
       refine wr (pN 3 k rfl fun a k => nn (wp_ret (fS h k m rfl rfl)))
     exact ⟨0, 0, k.keep [3, 54, 55, 56] rfl, m.sel [] rfl (by decide), h⟩
   refine wr (sv k rfl (r_fa fa40_4 k rfl rfl) fun a k => sv k rfl (r_ldb t137 m 0 hb15 7 k rfl rfl rfl rfl rfl) fun a k => sv k rfl (r_len (α := Typ) hf12 k underlying37 rfl rfl) fun a k => oE h fun x109 hx110 h => cE k m call99 rfl rfl rfl (c_impl_in fu _ _ _  hx110) fun w112 e a k m => pN 2 k rfl fun a k => bsplit (!x109) (fun hb113 => ?_) (fun hb113 => ?_))
   · have h := bif_t hb113 h
     refine rB k 36 rfl hb113 fun k => pN 16 k rfl fun a k => ?_
     have k := k.keep [1, 52] rfl
     refine nn (wp_cond_true (k.ev rfl) (wr (pN 1 k rfl fun a k => nn (wp_ret (rt_then ?_)))))
     refine fS h k m rfl rfl
   have h := bif_f hb113 h
   refine rB k 36 rfl hb113 fun k => sv k rfl (r_fa fa40_4 k rfl rfl) fun a k => sv k rfl (r_ldb t137 m 0 hb15 7 k rfl rfl rfl rfl rfl) fun a k => oE h fun x117 hx118 h => cE k m call184 rfl rfl rfl (c_slices_ContainsFunc_impl_Type_impl_Type fu _ _ (Enc.rd_agr hf12 (m.a00 (Enc.rd_lt hf12))) ⟨202, [], rfl, call202, fun w y114 v115 r e hv116 hx => by subst hv116; have m := m.step e; exact c_impl_BoundsOk_2 fu _  hx⟩ hx118) fun w120 e a k m => pN 2 k rfl fun a k => bsplit (x117) (fun hb121 => ?_) (fun hb121 => ?_)
   · have h := bif_t hb121 h
     refine rB k 41 rfl hb121 fun k => pN 11 k rfl fun a k => ?_
     have k := k.keep [1, 52] rfl
     refine nn (wp_cond_true (k.ev rfl) (wr (pN 1 k rfl fun a k => nn (wp_ret (rt_then ?_)))))
     refine fS h k m rfl rfl
   have h := bif_f hb121 h
   refine rB k 41 rfl hb121 fun k => sv k rfl (r_fa fa40_5 k rfl rfl) fun a k => sv k rfl (r_ldb t13 m 0 hb15 8 k rfl rfl rfl rfl rfl) fun a k => oE h fun x122 hx123 h => cE k m call99 rfl rfl rfl (c_impl_in fu _ _ _  hx123) fun w125 e a k m => pN 3 k rfl fun a k => bsplit (!x122) (fun hb126 => ?_) (fun hb126 => ?_)
   · have h := bif_t hb126 h
     refine rB k 47 rfl hb126 fun k => pN 5 k rfl fun a k => ?_
     have k := k.keep [1, 52] rfl
     refine nn (wp_cond_true (k.ev rfl) (wr (pN 1 k rfl fun a k => nn (wp_ret (rt_then ?_)))))
     refine fS h k m rfl rfl
   have h := bif_f hb126 h
   refine rB k 47 rfl hb126 fun k => sv k rfl (r_fa fa40_6 k rfl rfl) fun a k => sv k rfl (r_ldb t138 m 0 hb15 9 k rfl rfl rfl rfl rfl) fun a k => sv k rfl (r_len (α := Item) hf13 k underlying38 rfl rfl) fun a k => pN 2 k rfl fun a k => ?_
   have k := k.keep [1, 52] rfl
   refine nn (cI h k rfl (fun hb127 h => ?_) fun hb127 h => ?_)
   · refine wr (pN 1 k rfl fun a k => nn (wp_ret (rt_then ?_)))
     refine fS h k m rfl rfl
   refine wp_skip (nm_then ?_)
   exact ⟨k.keep [1] rfl, m.sel [0] rfl (by decide), h⟩
 refine wr (sv k rfl (r_fa fa40_0 k rfl rfl) fun a k => sv k rfl (r_ldb t13 m 0 hb15 0 k rfl rfl rfl rfl rfl) fun a k => oE h fun x128 hx129 h => cE k m call99 rfl rfl rfl (c_impl_in fu _ _ _  hx129) fun w131 e a k m => pN 2 k rfl fun a k => bsplit (!x128) (fun hb132 => ?_) (fun hb132 => ?_))
 · have h := bif_t hb132 h
   refine rB k 10 rfl hb132 fun k => pN 17 k rfl fun a k => nn (wp_cond_true (k.ev rfl) (wr (pN 1 k rfl fun a k => ?_)))
   have k := k.keep [2] rfl
   refine nn (wp_ret (rt_then ?_))
   refine fS h k m rfl rfl
 have h := bif_f hb132 h
 refine rB k 10 rfl hb132 fun k => sv k rfl (r_fa fa40_1 k rfl rfl) fun a k => sv k rfl (r_ldB ta35 m 0 hb15 1 k rfl rfl rfl rfl rfl rfl) fun a k => oE h fun x133 hx134 h => cE k m call199 rfl rfl rfl (c_impl_PalletOk fu (r1.fPallet : Pallet)  hx134) fun w136 e a k m => pN 3 k rfl fun a k => bsplit (!x133) (fun hb137 => ?_) (fun hb137 => ?_)
 · have h := bif_t hb137 h
   refine rB k 16 rfl hb137 fun k => pN 11 k rfl fun a k => nn (wp_cond_true (k.ev rfl) (wr (pN 1 k rfl fun a k => ?_)))
   have k := k.keep [2] rfl
   refine nn (wp_ret (rt_then ?_))
   refine fS h k m rfl rfl
 have h := bif_f hb137 h
 refine rB k 16 rfl hb137 fun k => sv k rfl (r_fa fa40_2 k rfl rfl) fun a k => sv k rfl (r_ldb t13 m 0 hb15 5 k rfl rfl rfl rfl rfl) fun a k => oE h fun x138 hx139 h => cE k m call99 rfl rfl rfl (c_impl_in fu _ _ _  hx139) fun w141 e a k m => pN 3 k rfl fun a k => bsplit (!x138) (fun hb142 => ?_) (fun hb142 => ?_)
 · have h := bif_t hb142 h
   refine rB k 22 rfl hb142 fun k => pN 5 k rfl fun a k => nn (wp_cond_true (k.ev rfl) (wr (pN 1 k rfl fun a k => ?_)))
   have k := k.keep [2] rfl
   refine nn (wp_ret (rt_then ?_))
   refine fS h k m rfl rfl
 have h := bif_f hb142 h
 refine rB k 22 rfl hb142 fun k => sv k rfl (r_fa fa40_3 k rfl rfl) fun a k => sv k rfl (r_ldb t136 m 0 hb15 6 k rfl rfl rfl rfl rfl) fun a k => sv k rfl (r_len (α := Pair) hf11 k underlying36 rfl rfl) fun a k => pN 2 k rfl fun a k => nn (cI h k rfl (fun hb143 h => ?_) fun hb143 h => ?_)
 · refine wr (pN 1 k rfl fun a k => ?_)
   have k := k.keep [2] rfl
   refine nn (wp_ret (rt_then ?_))
   refine fS h k m rfl rfl
 refine wp_skip (nm_then ?_)
 exact ⟨k.keep [1] rfl, m.sel [0] rfl (by decide), h⟩
theorem c_impl_namesOk_1 (fu : Nat) {w0 : World} (q1 : Typ) (x2 : Typ) {b3 : Nat} (hp4 : bx w0 b3 [.int .i64 x2.fId, .int .i64 x2.fW, .int .i64 x2.fH, .int .i64 x2.fD, .int .i64 x2.fTare, .int .i64 x2.fGram, .int .i64 x2.fCost] 92) {r : Bool}
    (h : d_impl_namesOk_1 fu q1 x2 = some r) :
    Calls Tryz.prog 205 #[.agg (Flat.e (q1)).toArray, .pointer (some (⟨b3, 0, none⟩ : Addr))] w0 fun e w => e = .returned (.bool (r)) ∧ Ext [] w0 w := by
 refine enter (vs := [_, _]) func205 rfl ntmps205 rfl fun a k => ?_
 have m := St.start w0
 unfold d_impl_namesOk_1 at h
 refine wr (s_box (cs := [.int .i64 q1.fId, .int .i64 q1.fW, .int .i64 q1.fH, .int .i64 q1.fD, .int .i64 q1.fTare, .int .i64 q1.fGram, .int .i64 q1.fCost]) m k rfl rfl rfl rfl rfl rfl fun b5 w7 a k m e hb6 => pN 1 k rfl fun a k => nn (wr (sv k rfl (r_fa fa92_0 k rfl rfl) fun a k => sv k rfl (r_ldb t13 m 0 hb6 0 k rfl rfl rfl rfl rfl) fun a k => sv k rfl (r_fa fa92_0 k rfl rfl) fun a k => sv k rfl (r_ld1 t13 (r := []) (hp4.at (m.a00 hp4.lt1) 0 1 rfl rfl rfl) k rfl rfl) fun a k => pN 2 k rfl fun a k => nn (wp_ret (fS h k m rfl rfl)))))
theorem c_impl_namesOk_2 (fu : Nat) {w0 : World} (q1 : Item) (x2 : Item) {b3 : Nat} (hp4 : bx w0 b3 [.int .i64 x2.fId, .int .i64 x2.fW, .int .i64 x2.fH, .int .i64 x2.fD, .int .i64 x2.fGram, .int .i64 x2.fClass, .int .i64 x2.fCount] 120) {r : Bool}
    (h : d_impl_namesOk_2 fu q1 x2 = some r) :
    Calls Tryz.prog 206 #[.agg (Flat.e (q1)).toArray, .pointer (some (⟨b3, 0, none⟩ : Addr))] w0 fun e w => e = .returned (.bool (r)) ∧ Ext [] w0 w := by
 refine enter (vs := [_, _]) func206 rfl ntmps206 rfl fun a k => ?_
 have m := St.start w0
 unfold d_impl_namesOk_2 at h
 refine wr (s_box (cs := [.int .i64 q1.fId, .int .i64 q1.fW, .int .i64 q1.fH, .int .i64 q1.fD, .int .i64 q1.fGram, .int .i64 q1.fClass, .int .i64 q1.fCount]) m k rfl rfl rfl rfl rfl rfl fun b5 w7 a k m e hb6 => pN 1 k rfl fun a k => nn (wr (sv k rfl (r_fa fa120_0 k rfl rfl) fun a k => sv k rfl (r_ldb t13 m 0 hb6 0 k rfl rfl rfl rfl rfl) fun a k => sv k rfl (r_fa fa120_0 k rfl rfl) fun a k => sv k rfl (r_ld1 t13 (r := []) (hp4.at (m.a00 hp4.lt1) 0 1 rfl rfl rfl) k rfl rfl) fun a k => pN 2 k rfl fun a k => nn (wp_ret (fS h k m rfl rfl)))))
theorem c_slices_IndexFunc_impl_Item_impl_Item (fu : Nat) {w0 : World} (sv1 : List Item) (f5 : Item → Option Bool) {v2 : Value} {F3 : List Nat} (hp4 : rd w0 F3 [v2] sv1) {v6 : Value} (hp7 : FnOk1 Tryz.prog w0 v6 f5) {r : Int}
    (h : d_slices_IndexFunc_impl_Item_impl_Item fu sv1 f5 = some r) :
    Calls Tryz.prog 190 #[v2, v6] w0 fun e w => e = .returned (.int .i64 r) ∧ Ext [] w0 w := by
 refine enter (vs := [_, _]) func190 rfl ntmps190 rfl fun a k => ?_
 have m := St.start w0
 obtain ⟨fid8, cap9, rfl, hcl10, hcc11⟩ := hp7
 unfold d_slices_IndexFunc_impl_Item_impl_Item at h
 refine wr (pN 1 k rfl fun a k => nn (wp_seq (wr (pN 1 k rfl fun a k => sv k rfl (r_len (α := Item) hp4 k underlying38 rfl rfl) fun a k => pN 1 k rfl fun a k => nn (wp_block (c_loop (fun n a w => ∃ (x32 : Int), K 19 [(0, v2), (1, (.func (.func fid8) #[] cap9.toArray)), (7, .int .i64 ((sv1.length : Int))), (8, .int .i64 x32)] a ∧ St [] w0 w [] ∧ d_slices_IndexFunc_impl_Item_impl_Item_L1 fu sv1 f5 n x32 = some r) ?_ ?_ fu _ _ ?_))))))
 · rintro a w ⟨_, _, _, h⟩
   exact nS h
 · rintro m33 a w31 ⟨x32, k, m, h⟩
   rw [d_slices_IndexFunc_impl_Item_impl_Item_L1_s] at h
   unfold d_slices_IndexFunc_impl_Item_impl_Item_L1_B at h
   refine wr (pN 1 k rfl fun a k => nn (wp_seq (cI h k rfl (fun hb34 h => ?_) fun hb34 h => ?_)))
   · refine wp_skip (nm_then ?_)
     refine wp_seq (wp_block (wr (pN 2 k rfl fun a k => nn (wr (pN 3 k rfl fun a k => oE h fun x35 hx36 h => sv k rfl (r_ixa hp4 hx36 k ts38 rfl rfl rfl) fun a k => sv k rfl (r_lde hp4 (m.a00 (Enc.rd_lt hp4)) hx36 ta120 k rfl rfl) fun a k => oE h fun x37 hx38 h => s_callv k hcl10 rfl rfl rfl rfl rfl rfl (hcc11 _ _ _ _ m.ext rfl hx38) fun e39 w40 hR => ?_)))))
     obtain ⟨rfl, e⟩ := hR
     refine ⟨_, rfl, fun a k => ?_⟩
     have m := m.step e
     refine nn (cI h k rfl (fun hb41 h => ?_) fun hb41 h => ?_)
     · refine wr (pN 2 k rfl fun a k => nn (wp_ret (rt_block (rt_then (rt_then (rt_block (rt_then ?_)))))))
       refine fS h k m rfl rfl
     refine wp_skip (nm_block (nm_then ?_))
     refine wp_region_lit (pN 2 k rfl fun a k => nn ?_)
     exact ⟨w64 (x32 + 1), k.keep [0, 1, 7, 8] rfl, m.sel [] rfl (by decide), h⟩
   refine wp_exit (ex_then (ex_then (ex_same (nm_then ?_))))
   refine wr (pN 1 k rfl fun a k => nn (wp_ret (fS h k m rfl rfl)))
 exact ⟨0, k.keep [0, 1, 7, 8] rfl, m.sel [] rfl (by decide), h⟩
theorem c_slices_ContainsFunc_impl_Item_impl_Item (fu : Nat) {w0 : World} (sv1 : List Item) (f5 : Item → Option Bool) {v2 : Value} {F3 : List Nat} (hp4 : rd w0 F3 [v2] sv1) {v6 : Value} (hp7 : FnOk1 Tryz.prog w0 v6 f5) {r : Bool}
    (h : d_slices_ContainsFunc_impl_Item_impl_Item fu sv1 f5 = some r) :
    Calls Tryz.prog 151 #[v2, v6] w0 fun e w => e = .returned (.bool (r)) ∧ Ext [] w0 w := by
 refine enter (vs := [_, _]) func151 rfl ntmps151 rfl fun a k => ?_
 have m := St.start w0
 obtain ⟨fid8, cap9, rfl, hcl10, hcc11⟩ := hp7
 unfold d_slices_ContainsFunc_impl_Item_impl_Item at h
 refine wr (pN 1 k rfl fun a k => nn (wr (pN 2 k rfl fun a k => oE h fun x14 hx15 h => cE k m call190 rfl rfl rfl (c_slices_IndexFunc_impl_Item_impl_Item fu _ _ (Enc.rd_agr hp4 (m.a00 (Enc.rd_lt hp4))) ⟨_, _, rfl, hcl10, fun w y12 v13 r e => hcc11 w y12 v13 r (m.ext.trans e (by simp))⟩ hx15) fun w17 e a k m => pN 2 k rfl fun a k => nn (wp_ret (fS h k m rfl rfl)))))
theorem c_impl_namesOk_3 (fu : Nat) {w0 : World} (p1 : Pair) (x2 : Request) {v5 : Value} {F6 : List Nat} {v8 : Value} {F9 : List Nat} {v11 : Value} {F12 : List Nat} {b3 : Nat} (hp4 : bx w0 b3 [.int .i64 x2.fWay, .int .i64 x2.fPallet.fW, .int .i64 x2.fPallet.fD, .int .i64 x2.fPallet.fH, .int .i64 x2.fPallet.fGram, .int .i64 x2.fClasses, v5, v8, .int .i64 x2.fMaster, v11] 40) (hp7 : rd w0 F6 [v5] x2.fPairs) (hp10 : rd w0 F9 [v8] x2.fTypes) (hp13 : rd w0 F12 [v11] x2.fItems) {r : Bool}
    (h : d_impl_namesOk_3 fu p1 x2 = some r) :
    Calls Tryz.prog 207 #[.agg (Flat.e (p1)).toArray, .pointer (some (⟨b3, 0, none⟩ : Addr))] w0 fun e w => e = .returned (.bool (r)) ∧ Ext [] w0 w := by
 refine enter (vs := [_, _]) func207 rfl ntmps207 rfl fun a k => ?_
 have m := St.start w0
 unfold d_impl_namesOk_3 at h
 refine wr (s_box (cs := [.int .i64 p1.fA, .int .i64 p1.fB]) m k rfl rfl rfl rfl rfl rfl fun b14 w16 a k m e hb15 => pN 1 k rfl fun a k => nn (wr (sv k rfl (r_fa fa144_0 k rfl rfl) fun a k => sv k rfl (r_ldb t13 m 0 hb15 0 k rfl rfl rfl rfl rfl) fun a k => sv k rfl (r_fa fa40_2 k rfl rfl) fun a k => sv k rfl (r_ld1 t13 (r := []) (hp4.at (m.a00 hp4.lt1) 5 1 rfl rfl rfl) k rfl rfl) fun a k => pN 2 k rfl fun a k => bsplit (decide (p1.fA ≥ x2.fClasses)) (fun hb17 => ?_) (fun hb17 => ?_))))
 · have h := bif_t hb17 h
   refine rB k 9 rfl hb17 fun k => pN 7 k rfl fun a k => nn (wp_ret (fS h k m rfl rfl))
 have h := bif_f hb17 h
 refine rB k 9 rfl hb17 fun k => sv k rfl (r_fa fa144_1 k rfl rfl) fun a k => sv k rfl (r_ldb t13 m 0 hb15 1 k rfl rfl rfl rfl rfl) fun a k => sv k rfl (r_fa fa40_2 k rfl rfl) fun a k => sv k rfl (r_ld1 t13 (r := []) (hp4.at (m.a00 hp4.lt1) 5 1 rfl rfl rfl) k rfl rfl) fun a k => pN 3 k rfl fun a k => nn (wp_ret (fS h k m rfl rfl))
theorem c_impl_namesOk (fu : Nat) {w0 : World} (r1 : Request) {cs2 : List Value} {F3 : List Nat} (hp4 : rd w0 F3 cs2 r1) {r : Bool}
    (h : d_impl_namesOk fu r1 = some r) :
    Calls Tryz.prog 180 #[.agg cs2.toArray] w0 fun e w => e = .returned (.bool (r)) ∧ Ext [] w0 w := by
 refine enter (vs := [_]) func180 rfl ntmps180 rfl fun a k => ?_
 have m := St.start w0
 obtain ⟨v5, F6, v7, F8, v9, F10, rfl, rfl, hf11, hf12, hf13⟩ := hp4
 unfold d_impl_namesOk at h
 refine wr (s_box (cs := [.int .i64 r1.fWay, .int .i64 r1.fPallet.fW, .int .i64 r1.fPallet.fD, .int .i64 r1.fPallet.fH, .int .i64 r1.fPallet.fGram, .int .i64 r1.fClasses, v5, v7, .int .i64 r1.fMaster, v9]) m k rfl rfl rfl rfl rfl rfl fun b14 w16 a k m e hb15 => pN 1 k rfl fun a k => nn (wp_seq (wr (sv k rfl (r_fa fa40_4 k rfl rfl) fun a k => sv k rfl (r_ldb t137 m 0 hb15 7 k rfl rfl rfl rfl rfl) fun a k => sv k rfl (r_len (α := Typ) hf12 k underlying37 rfl rfl) fun a k => pN 1 k rfl fun a k => nn (wp_block (c_loop (fun n a w => ∃ (x63 : Int), K 59 [(1, .pointer (some (⟨b14, 0, none⟩ : Addr))), (10, v7), (11, .int .i64 ((r1.fTypes.length : Int))), (12, .int .i64 x63)] a ∧ St [] w0 w [([b14], w16)] ∧ d_impl_namesOk_L2 fu r1 n x63 = some r) ?_ ?_ fu _ _ ?_))))))
 · rintro a w ⟨_, _, _, h⟩
   exact nS h
 · rintro m64 a w62 ⟨x63, k, m, h⟩
   rw [d_impl_namesOk_L2_s] at h
   unfold d_impl_namesOk_L2_B at h
   refine wr (pN 1 k rfl fun a k => nn (wp_seq (cI h k rfl (fun hb65 h => ?_) fun hb65 h => ?_)))
   · refine wp_skip (nm_then ?_)
     refine wp_seq (wp_block (wr (pN 1 k rfl fun a k => oE h fun x66 hx67 h => sv k rfl (r_ixa hf12 hx67 k ts37 rfl rfl rfl) fun a k => sv k rfl (r_lde hf12 (m.a00 (Enc.rd_lt hf12)) hx67 ta92 k rfl rfl) fun a k => s_alloc (cs := [.int .i64 0, .int .i64 0, .int .i64 0, .int .i64 0, .int .i64 0, .int .i64 0, .int .i64 0]) m k zeroValue92 rfl rfl rfl rfl rfl fun b68 w70 a k m e hb69 => pN 1 k rfl fun a k => s_stb (cs' := [.int .i64 x66.fId, .int .i64 x66.fW, .int .i64 x66.fH, .int .i64 x66.fD, .int .i64 x66.fTare, .int .i64 x66.fGram, .int .i64 x66.fCost]) sizeOf92 m 0 hb69 0 k rfl rfl rfl rfl rfl rfl rfl rfl rfl rfl rfl fun w71 a k e m hb72 => nn (wr (sv k rfl (r_fa fa40_4 k rfl rfl) fun a k => sv k rfl (r_ldb t137 m 1 hb15 7 k rfl rfl rfl rfl rfl) fun a k => pN 1 k rfl fun a k => oE h fun x73 hx74 h => ?_)))))
     refine s_slTo hf12 hx74 k ts37 rfl rfl rfl rfl rfl rfl fun v75 a k hf76 => pN 1 k rfl fun a k => oE h fun x81 hx82 h => cE k m call184 rfl rfl rfl (c_slices_ContainsFunc_impl_Type_impl_Type fu _ _ (Enc.rd_agr hf76 (m.a00 (Enc.rd_lt hf76))) ⟨205, [.pointer (some (⟨b68, 0, none⟩ : Addr))], rfl, call205, fun w y78 v79 r e hv80 hx => by subst hv80; have m := m.step e; exact c_impl_namesOk_1 fu _ _ (hb72.agr (m.a 0 rfl) (by simp)) hx⟩ hx82) fun w84 e a k m => nn (cI h k rfl (fun hb85 h => ?_) fun hb85 h => ?_)
     · refine wr (pN 1 k rfl fun a k => nn (wp_ret (rt_block (rt_then (rt_then (rt_block (rt_then ?_)))))))
       refine fS h k m rfl rfl
     refine wp_skip (nm_block (nm_then ?_))
     refine wp_region_lit (pN 2 k rfl fun a k => nn ?_)
     exact ⟨w64 (x63 + 1), k.keep [1, 10, 11, 12] rfl, m.sel [1] rfl (by decide), h⟩
   refine wp_exit (ex_then (ex_then (ex_same (nm_then ?_))))
   refine wp_seq (wr (sv k rfl (r_fa fa40_6 k rfl rfl) fun a k => sv k rfl (r_ldb t138 m 0 hb15 9 k rfl rfl rfl rfl rfl) fun a k => sv k rfl (r_len (α := Item) hf13 k underlying38 rfl rfl) fun a k => pN 1 k rfl fun a k => nn (wp_block (c_loop (fun n a w => ∃ (x178 : Int), K 59 [(1, .pointer (some (⟨b14, 0, none⟩ : Addr))), (25, v9), (26, .int .i64 ((r1.fItems.length : Int))), (27, .int .i64 x178)] a ∧ St [] w0 w [([b14], w16)] ∧ d_impl_namesOk_L1 fu r1 n x178 = some r) ?_ ?_ fu _ _ ?_))))
   · rintro a w ⟨_, _, _, h⟩
     exact nS h
   · rintro m179 a w177 ⟨x178, k, m, h⟩
     rw [d_impl_namesOk_L1_s] at h
     unfold d_impl_namesOk_L1_B at h
     refine wr (pN 1 k rfl fun a k => nn (wp_seq (cI h k rfl (fun hb180 h => ?_) fun hb180 h => ?_)))
     · refine wp_skip (nm_then ?_)
       refine c_cut (fun a w => K 59 [(1, .pointer (some (⟨b14, 0, none⟩ : Addr))), (25, v9), (26, .int .i64 ((r1.fItems.length : Int))), (27, .int .i64 x178)] a ∧ St [] w0 w [([b14], w16)] ∧ d_impl_namesOk_J1 fu (d_impl_namesOk_L1 fu r1 m179) x178 = some r) ?_ ?_
       · rintro a w202 ⟨k, m, h⟩
         unfold d_impl_namesOk_J1 at h
         refine wp_region_lit (pN 2 k rfl fun a k => nn ?_)
         exact ⟨w64 (x178 + 1), k.keep [1, 25, 26, 27] rfl, m.sel [0] rfl (by decide), h⟩
       refine wp_block (wr (pN 1 k rfl fun a k => oE h fun x203 hx204 h => sv k rfl (r_ixa hf13 hx204 k ts38 rfl rfl rfl) fun a k => sv k rfl (r_lde hf13 (m.a00 (Enc.rd_lt hf13)) hx204 ta120 k rfl rfl) fun a k => s_alloc (cs := [.int .i64 0, .int .i64 0, .int .i64 0, .int .i64 0, .int .i64 0, .int .i64 0, .int .i64 0]) m k zeroValue120 rfl rfl rfl rfl rfl fun b205 w207 a k m e hb206 => pN 1 k rfl fun a k => s_stb (cs' := [.int .i64 x203.fId, .int .i64 x203.fW, .int .i64 x203.fH, .int .i64 x203.fD, .int .i64 x203.fGram, .int .i64 x203.fClass, .int .i64 x203.fCount]) sizeOf120 m 0 hb206 0 k rfl rfl rfl rfl rfl rfl rfl rfl rfl rfl rfl fun w208 a k e m hb209 => nn (wr (sv k rfl (r_fa fa120_5 k rfl rfl) fun a k => sv k rfl (r_ldb t13 m 0 hb209 5 k rfl rfl rfl rfl rfl) fun a k => ?_))))
       refine sv k rfl (r_fa fa40_2 k rfl rfl) fun a k => sv k rfl (r_ldb t13 m 1 hb15 5 k rfl rfl rfl rfl rfl) fun a k => pN 2 k rfl fun a k => bsplit (decide (x203.fClass ≥ r1.fClasses)) (fun hb210 => ?_) (fun hb210 => ?_)
       · have h := bif_t hb210 h
         refine rB k 37 rfl hb210 fun k => pN 7 k rfl fun a k => nn (wp_cond_true (k.ev rfl) (wr (pN 1 k rfl fun a k => nn (wp_ret (rt_block (rt_then (rt_then (rt_block (rt_then ?_)))))))))
         refine fS h k m rfl rfl
       have h := bif_f hb210 h
       refine rB k 37 rfl hb210 fun k => sv k rfl (r_fa fa40_6 k rfl rfl) fun a k => sv k rfl (r_ldb t138 m 1 hb15 9 k rfl rfl rfl rfl rfl) fun a k => pN 1 k rfl fun a k => oE h fun x211 hx212 h => s_slTo hf13 hx212 k ts38 rfl rfl rfl rfl rfl rfl fun v213 a k hf214 => pN 1 k rfl fun a k => oE h fun x219 hx220 h => cE k m call151 rfl rfl rfl (c_slices_ContainsFunc_impl_Item_impl_Item fu _ _ (Enc.rd_agr hf214 (m.a00 (Enc.rd_lt hf214))) ⟨206, [.pointer (some (⟨b205, 0, none⟩ : Addr))], rfl, call206, fun w y216 v217 r e hv218 hx => by subst hv218; have m := m.step e; exact c_impl_namesOk_2 fu _ _ (hb209.agr (m.a 0 rfl) (by simp)) hx⟩ hx220) fun w222 e a k m => pN 1 k rfl fun a k => nn (cI h k rfl (fun hb223 h => ?_) fun hb223 h => ?_)
       · refine wr (pN 1 k rfl fun a k => nn (wp_ret (rt_block (rt_then (rt_then (rt_block (rt_then ?_)))))))
         refine fS h k m rfl rfl
       refine wp_skip (nm_block (nm_then ?_))
       exact ⟨k.keep [1, 25, 26, 27] rfl, m.sel [1] rfl (by decide), h⟩
     refine wp_exit (ex_then (ex_then (ex_same (nm_then ?_))))
     refine wr (sv k rfl (r_ldB ta40 m 0 hb15 0 k rfl rfl rfl rfl rfl rfl) fun a k => oE h fun x224 hx225 h => cE k m call148 rfl rfl rfl (c_impl_MasterOf fu _ (show rd _ _ [.int .i64 r1.fWay, .int .i64 r1.fPallet.fW, .int .i64 r1.fPallet.fD, .int .i64 r1.fPallet.fH, .int .i64 r1.fPallet.fGram, .int .i64 r1.fClasses, v5, v7, .int .i64 r1.fMaster, v9] (r1 : Request) from ⟨_, _, _, _, _, _, rfl, rfl, (Enc.rd_agr hf11 (m.a00 (Enc.rd_lt hf11))), (Enc.rd_agr hf12 (m.a00 (Enc.rd_lt hf12))), (Enc.rd_agr hf13 (m.a00 (Enc.rd_lt hf13)))⟩) hx225) fun w227 e a k m => pN 3 k rfl fun a k => s_alloc (cs := [.int .i64 0, .int .i64 0, .int .i64 0, .int .i64 0, .int .i64 0, .int .i64 0, .int .i64 0]) m k zeroValue92 rfl rfl rfl rfl rfl fun b228 w230 a k m e hb229 => ?_)
     refine s_stb (cs' := [.int .i64 x224.1.fId, .int .i64 x224.1.fW, .int .i64 x224.1.fH, .int .i64 x224.1.fD, .int .i64 x224.1.fTare, .int .i64 x224.1.fGram, .int .i64 x224.1.fCost]) sizeOf92 m 0 hb229 0 k rfl rfl rfl rfl rfl rfl rfl rfl rfl rfl rfl fun w231 a k e m hb232 => pN 1 k rfl fun a k => nn (wr (pN 2 k rfl fun a k => bsplit (x224.2) (fun hb233 => ?_) (fun hb233 => ?_)))
     · have h := bif_t hb233 h
       refine rB k 52 rfl hb233 fun k => sv k rfl (r_fa fa40_3 k rfl rfl) fun a k => sv k rfl (r_ldb t136 m 1 hb15 6 k rfl rfl rfl rfl rfl) fun a k => pN 1 k rfl fun a k => oE h fun x237 hx238 h => cE k m call200 rfl rfl rfl (c_slices_ContainsFunc_impl_Pair_impl_Pair fu _ _ (Enc.rd_agr hf11 (m.a00 (Enc.rd_lt hf11))) ⟨207, [.pointer (some (⟨b14, 0, none⟩ : Addr))], rfl, call207, fun w y234 v235 r e hv236 hx => by subst hv236; have m := m.step e; exact c_impl_namesOk_3 fu _ _ (hb15.agr (m.a 1 rfl) (by simp)) (Enc.rd_agr hf11 (m.a00 (Enc.rd_lt hf11))) (Enc.rd_agr hf12 (m.a00 (Enc.rd_lt hf12))) (Enc.rd_agr hf13 (m.a00 (Enc.rd_lt hf13))) hx⟩ hx238) fun w240 e a k m => pN 3 k rfl fun a k => nn (wp_ret (fS h k m rfl rfl))
     have h := bif_f hb233 h
     refine rB k 52 rfl hb233 fun k => pN 7 k rfl fun a k => nn (wp_ret (fS h k m rfl rfl))
   exact ⟨0, k.keep [1, 25, 26, 27] rfl, m.sel [0] rfl (by decide), h⟩
 exact ⟨0, k.keep [1, 10, 11, 12] rfl, m.sel [0] rfl (by decide), h⟩

end Go.Proofs.YthjbcfefkdbgoaaGreat
