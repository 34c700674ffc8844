/- FnExactSlackGram: the walks of functions that the law reaches, part 3. Printed by gen.py. -/
import Derived.Test.YthjbcfefkdbgoaaGreatExactSlackGramW2
set_option maxRecDepth 20000
set_option linter.unusedSimpArgs false
set_option linter.unusedVariables false
namespace Go.Proofs.YthjbcfefkdbgoaaGreat
open Go Go.RowKit
open Enc (rd ow)
open Arg (argv)
open Ret (retv)

theorem te47 : TE Tryz.prog 47 1 24 [.slice none 0 0] := ⟨29, Tryz.t29, Tryz.underlying47, Tryz.type29, ⟨_, rfl, rfl⟩, rfl, rfl, rfl, by decide⟩
theorem ts47 : TS Tryz.prog 47 1 := ⟨29, Tryz.underlying47, Tryz.sizeOf29⟩
theorem t129 : T1 Tryz.prog 29 := ⟨fun w => by simp [isAgg, run_underlying Tryz.underlying29], Tryz.sizeOf29⟩
theorem bt120 : BT Tryz.prog 120 [.int .i64 0, .int .i64 0, .int .i64 0, .int .i64 0, .int .i64 0, .int .i64 0, .int .i64 0] #[(0, 1), (1, 1), (2, 1), (3, 1), (4, 1), (5, 1), (6, 1)] := ⟨Tryz.zeroValue120, _, Tryz.underlying120, fun w => by simp [Tryz.sizeOf3]⟩

def d_spec_Class_J1 (fu : Nat) (k4 : Int → Option (Int)) (i126 : Int)  : Option (Int) :=
  k4 (w64 (i126 + 1))

def d_spec_Class_L1_B (fu : Nat)  (r1 : Request) (k4 : Int → Option (Int)) (i126 : Int) : Option (Int) :=
  bif (decide (i126 < ((r1.fTypes.length : Int)))) then obind (ix r1.fTypes i126) fun x141 => bif (decide (x141.fW > r1.fPallet.fW)) then some (6) else bif (decide (x141.fD > r1.fPallet.fD)) then some (6) else bif (decide (x141.fH > r1.fPallet.fH)) then some (6) else bif (decide ((w64 (x141.fTare + x141.fGram)) > r1.fPallet.fGram)) then some (6) else d_spec_Class_J1 fu k4 i126 else some (0)
def d_spec_Class_L1 (fu : Nat)  (r1 : Request) : Nat → Int → Option (Int)
  | 0 => fun _ => none
  | n + 1 => d_spec_Class_L1_B fu r1 (d_spec_Class_L1 fu r1 n)
theorem d_spec_Class_L1_s (fu : Nat)  (r1 : Request) (n : Nat) : d_spec_Class_L1 fu r1 (n + 1) = d_spec_Class_L1_B fu r1 (d_spec_Class_L1 fu r1 n) := rfl

def d_spec_Class_L2_B (fu : Nat)  (r1 : Request) (x32 : Typ × Bool) (k1 : Int → Option (Int)) (i63 : Int) : Option (Int) :=
  bif (decide (i63 < ((r1.fItems.length : Int)))) then obind (ix r1.fItems i63) fun x67 => obind (d_spec_Fits fu x67 x32.1) fun x69 => bif (!x69) then some (5) else k1 (w64 (i63 + 1)) else d_spec_Class_L1 fu r1 fu 0
def d_spec_Class_L2 (fu : Nat)  (r1 : Request) (x32 : Typ × Bool) : Nat → Int → Option (Int)
  | 0 => fun _ => none
  | n + 1 => d_spec_Class_L2_B fu r1 x32 (d_spec_Class_L2 fu r1 x32 n)
theorem d_spec_Class_L2_s (fu : Nat)  (r1 : Request) (x32 : Typ × Bool) (n : Nat) : d_spec_Class_L2 fu r1 x32 (n + 1) = d_spec_Class_L2_B fu r1 x32 (d_spec_Class_L2 fu r1 x32 n) := rfl

def d_spec_Class (fu : Nat) (r1 : Request) : Option (Int) :=
  obind (d_spec_BoundsOk fu r1) fun x17 => bif (!x17) then some (2) else obind (d_spec_l5Names fu r1) fun x22 => bif (!x22) then some (3) else obind (d_spec_TableOk fu r1.fPairs r1.fClasses) fun x27 => bif (!x27) then some (4) else obind (d_spec_MasterOf fu r1) fun x32 => d_spec_Class_L2 fu r1 x32 fu 0

def d_spec_Present_J1 (fu : Nat) (k19 : List Int → Int → Option ((List Int))) (class235 : Int) (out284 : List Int) : Option ((List Int)) :=
  k19 out284 (w64 (class235 + 1))

def d_spec_Present_J2 (fu : Nat) (k27 : Bool → Int → Option ((List Int))) (i311 : Int) (found318 : Bool) : Option ((List Int)) :=
  k27 found318 (w64 (i311 + 1))

def d_spec_Present_L1_B (fu : Nat) (k19 : List Int → Int → Option ((List Int))) (r1 : Request) (out230 : List Int) (class235 : Int) (k27 : Bool → Int → Option ((List Int))) (found310 : Bool) (i311 : Int) : Option ((List Int)) :=
  bif (decide (i311 < ((r1.fItems.length : Int)))) then bif found310 then d_spec_Present_J2 fu k27 i311 true else obind (ix r1.fItems i311) fun x320 => d_spec_Present_J2 fu k27 i311 (x320.fClass == class235) else bif found310 then obind (apnd 8 out230 (([class235] : List Int))) fun x328 => d_spec_Present_J1 fu k19 class235 x328 else d_spec_Present_J1 fu k19 class235 out230
def d_spec_Present_L1 (fu : Nat) (k19 : List Int → Int → Option ((List Int))) (r1 : Request) (out230 : List Int) (class235 : Int) : Nat → Bool → Int → Option ((List Int))
  | 0 => fun _ _ => none
  | n + 1 => d_spec_Present_L1_B fu k19 r1 out230 class235 (d_spec_Present_L1 fu k19 r1 out230 class235 n)
theorem d_spec_Present_L1_s (fu : Nat) (k19 : List Int → Int → Option ((List Int))) (r1 : Request) (out230 : List Int) (class235 : Int) (n : Nat) : d_spec_Present_L1 fu k19 r1 out230 class235 (n + 1) = d_spec_Present_L1_B fu k19 r1 out230 class235 (d_spec_Present_L1 fu k19 r1 out230 class235 n) := rfl

def d_spec_Present_L2_B (fu : Nat)  (r1 : Request) (k19 : List Int → Int → Option ((List Int))) (out230 : List Int) (class235 : Int) : Option ((List Int)) :=
  bif (decide (class235 < 4)) then d_spec_Present_L1 fu k19 r1 out230 class235 fu false 0 else some (out230)
def d_spec_Present_L2 (fu : Nat)  (r1 : Request) : Nat → List Int → Int → Option ((List Int))
  | 0 => fun _ _ => none
  | n + 1 => d_spec_Present_L2_B fu r1 (d_spec_Present_L2 fu r1 n)
theorem d_spec_Present_L2_s (fu : Nat)  (r1 : Request) (n : Nat) : d_spec_Present_L2 fu r1 (n + 1) = d_spec_Present_L2_B fu r1 (d_spec_Present_L2 fu r1 n) := rfl

def d_spec_Present (fu : Nat) (r1 : Request) : Option ((List Int)) :=
  obind (d_spec_Class fu r1) fun x22 => bif (x22 != 0) then some (([] : List Int)) else d_spec_Present_L2 fu r1 fu (([] : List Int)) 0

def d_spec_l1Has_L1_B (fu : Nat)  (list1 : List Int) (x5 : Int) (k1 : Int → Option (Bool)) (i18 : Int) : Option (Bool) :=
  bif (decide (i18 < ((list1.length : Int)))) then obind (ix list1 i18) fun x21 => bif (x21 == x5) then some (true) else k1 (w64 (i18 + 1)) else some (false)
def d_spec_l1Has_L1 (fu : Nat)  (list1 : List Int) (x5 : Int) : Nat → Int → Option (Bool)
  | 0 => fun _ => none
  | n + 1 => d_spec_l1Has_L1_B fu list1 x5 (d_spec_l1Has_L1 fu list1 x5 n)
theorem d_spec_l1Has_L1_s (fu : Nat)  (list1 : List Int) (x5 : Int) (n : Nat) : d_spec_l1Has_L1 fu list1 x5 (n + 1) = d_spec_l1Has_L1_B fu list1 x5 (d_spec_l1Has_L1 fu list1 x5 n) := rfl

def d_spec_l1Has (fu : Nat) (list1 : List Int) (x5 : Int) : Option (Bool) :=
  d_spec_l1Has_L1 fu list1 x5 fu 0

def d_spec_l3Joins_J1 (fu : Nat) (k3 : Int → Option (Bool)) (i74 : Int)  : Option (Bool) :=
  k3 (w64 (i74 + 1))

def d_spec_l3Joins_L1_B (fu : Nat)  (pairs1 : List Pair) (group5 : List Int) (class9 : Int) (k3 : Int → Option (Bool)) (i74 : Int) : Option (Bool) :=
  bif (decide (i74 < ((group5.length : Int)))) then obind (ix group5 i74) fun x92 => obind (d_spec_Beside fu pairs1 x92 class9) fun x94 => bif (!x94) then some (false) else obind (ix group5 i74) fun x99 => obind (d_spec_Beside fu pairs1 class9 x92) fun x101 => bif (!x101) then some (false) else d_spec_l3Joins_J1 fu k3 i74 else some (true)
def d_spec_l3Joins_L1 (fu : Nat)  (pairs1 : List Pair) (group5 : List Int) (class9 : Int) : Nat → Int → Option (Bool)
  | 0 => fun _ => none
  | n + 1 => d_spec_l3Joins_L1_B fu pairs1 group5 class9 (d_spec_l3Joins_L1 fu pairs1 group5 class9 n)
theorem d_spec_l3Joins_L1_s (fu : Nat)  (pairs1 : List Pair) (group5 : List Int) (class9 : Int) (n : Nat) : d_spec_l3Joins_L1 fu pairs1 group5 class9 (n + 1) = d_spec_l3Joins_L1_B fu pairs1 group5 class9 (d_spec_l3Joins_L1 fu pairs1 group5 class9 n) := rfl

def d_spec_l3Joins (fu : Nat) (pairs1 : List Pair) (group5 : List Int) (class9 : Int) : Option (Bool) :=
  d_spec_l3Joins_L1 fu pairs1 group5 class9 fu 0

def d_spec_Groups_J1 (fu : Nat) (k19 : List (List Int) → Int → Option ((List (List Int)))) (class662 : Int) (out821 : List (List Int)) : Option ((List (List Int))) :=
  k19 out821 (w64 (class662 + 1))

def d_spec_Groups_J2 (fu : Nat) (k27 : Int → Int → Option ((List (List Int)))) (i899 : Int) (at917 : Int) : Option ((List (List Int))) :=
  k27 at917 (w64 (i899 - 1))

def d_spec_Groups_L1_B (fu : Nat) (k19 : List (List Int) → Int → Option ((List (List Int)))) (pairs1 : List Pair) (out657 : List (List Int)) (class662 : Int) (k27 : Int → Int → Option ((List (List Int)))) (at898 : Int) (i899 : Int) : Option ((List (List Int))) :=
  bif (decide (i899 ≥ 0)) then obind (ix out657 i899) fun x918 => obind (d_spec_l3Joins fu pairs1 x918 class662) fun x927 => bif x927 then d_spec_Groups_J2 fu k27 i899 i899 else d_spec_Groups_J2 fu k27 i899 at898 else bif (decide (at898 < 0)) then obind (apnd 24 out657 [([class662] : List Int)]) fun x942 => d_spec_Groups_J1 fu k19 class662 x942 else obind (ix out657 at898) fun x951 => obind (apnd 8 x951 (([class662] : List Int))) fun x965 => obind (ix out657 at898) fun x975 => d_spec_Groups_J1 fu k19 class662 (setx out657 at898 x965)
def d_spec_Groups_L1 (fu : Nat) (k19 : List (List Int) → Int → Option ((List (List Int)))) (pairs1 : List Pair) (out657 : List (List Int)) (class662 : Int) : Nat → Int → Int → Option ((List (List Int)))
  | 0 => fun _ _ => none
  | n + 1 => d_spec_Groups_L1_B fu k19 pairs1 out657 class662 (d_spec_Groups_L1 fu k19 pairs1 out657 class662 n)
theorem d_spec_Groups_L1_s (fu : Nat) (k19 : List (List Int) → Int → Option ((List (List Int)))) (pairs1 : List Pair) (out657 : List (List Int)) (class662 : Int) (n : Nat) : d_spec_Groups_L1 fu k19 pairs1 out657 class662 (n + 1) = d_spec_Groups_L1_B fu k19 pairs1 out657 class662 (d_spec_Groups_L1 fu k19 pairs1 out657 class662 n) := rfl

def d_spec_Groups_L2_B (fu : Nat)  (pairs1 : List Pair) (present5 : List Int) (k19 : List (List Int) → Int → Option ((List (List Int)))) (out657 : List (List Int)) (class662 : Int) : Option ((List (List Int))) :=
  bif (decide (class662 < 4)) then obind (d_spec_l1Has fu present5 class662) fun x826 => bif (!x826) then d_spec_Groups_J1 fu k19 class662 out657 else d_spec_Groups_L1 fu k19 pairs1 out657 class662 fu ((-1)) (w64 (((out657.length : Int)) - 1)) else some (out657)
def d_spec_Groups_L2 (fu : Nat)  (pairs1 : List Pair) (present5 : List Int) : Nat → List (List Int) → Int → Option ((List (List Int)))
  | 0 => fun _ _ => none
  | n + 1 => d_spec_Groups_L2_B fu pairs1 present5 (d_spec_Groups_L2 fu pairs1 present5 n)
theorem d_spec_Groups_L2_s (fu : Nat)  (pairs1 : List Pair) (present5 : List Int) (n : Nat) : d_spec_Groups_L2 fu pairs1 present5 (n + 1) = d_spec_Groups_L2_B fu pairs1 present5 (d_spec_Groups_L2 fu pairs1 present5 n) := rfl

def d_spec_Groups (fu : Nat) (pairs1 : List Pair) (present5 : List Int) : Option ((List (List Int))) :=
  d_spec_Groups_L2 fu pairs1 present5 fu (([] : List (List Int))) 0

def d_spec_GroupsOf (fu : Nat) (r1 : Request) : Option ((List (List Int))) :=
  obind (d_spec_Present fu r1) fun x18 => obind (d_spec_Groups fu r1.fPairs x18) fun x28 => some (x28)

def d_spec_l17Group (fu : Nat) (r1 : Request) (kv5 : Int) : Option (Bool) :=
  obind (d_spec_GroupsOf fu r1) fun x18 => obind (d_spec_l1In fu kv5 0 (w64 (((x18.length : Int)) - 1))) fun x27 => some (x27)

def d_spec_l6Units_L1_B (fu : Nat) (k3 : List Int → Int → Option ((List Int))) (r1 : Request) (i154 : Int) (k4 : List Int → Int → Option ((List Int))) (out194 : List Int) (kv199 : Int) : Option ((List Int)) :=
  obind (ix r1.fItems i154) fun x201 => bif (decide (kv199 < x201.fCount)) then obind (apnd 8 out194 (([i154] : List Int))) fun x209 => k4 x209 (w64 (kv199 + 1)) else k3 out194 (w64 (i154 + 1))
def d_spec_l6Units_L1 (fu : Nat) (k3 : List Int → Int → Option ((List Int))) (r1 : Request) (i154 : Int) : Nat → List Int → Int → Option ((List Int))
  | 0 => fun _ _ => none
  | n + 1 => d_spec_l6Units_L1_B fu k3 r1 i154 (d_spec_l6Units_L1 fu k3 r1 i154 n)
theorem d_spec_l6Units_L1_s (fu : Nat) (k3 : List Int → Int → Option ((List Int))) (r1 : Request) (i154 : Int) (n : Nat) : d_spec_l6Units_L1 fu k3 r1 i154 (n + 1) = d_spec_l6Units_L1_B fu k3 r1 i154 (d_spec_l6Units_L1 fu k3 r1 i154 n) := rfl

def d_spec_l6Units_L2_B (fu : Nat)  (r1 : Request) (k3 : List Int → Int → Option ((List Int))) (out149 : List Int) (i154 : Int) : Option ((List Int)) :=
  bif (decide (i154 < ((r1.fItems.length : Int)))) then d_spec_l6Units_L1 fu k3 r1 i154 fu out149 0 else some (out149)
def d_spec_l6Units_L2 (fu : Nat)  (r1 : Request) : Nat → List Int → Int → Option ((List Int))
  | 0 => fun _ _ => none
  | n + 1 => d_spec_l6Units_L2_B fu r1 (d_spec_l6Units_L2 fu r1 n)
theorem d_spec_l6Units_L2_s (fu : Nat)  (r1 : Request) (n : Nat) : d_spec_l6Units_L2 fu r1 (n + 1) = d_spec_l6Units_L2_B fu r1 (d_spec_l6Units_L2 fu r1 n) := rfl

def d_spec_l6Units (fu : Nat) (r1 : Request) : Option ((List Int)) :=
  d_spec_l6Units_L2 fu r1 fu (([] : List Int)) 0

def d_spec_UnitsOf_J1 (fu : Nat) (k3 : List Int → Int → Option ((List Int))) (i194 : Int) (out228 : List Int) : Option ((List Int)) :=
  k3 out228 (w64 (i194 + 1))

def d_spec_UnitsOf_L1_B (fu : Nat)  (r1 : Request) (kv5 : Int) (x23 : (List (List Int))) (x37 : (List Int)) (k3 : List Int → Int → Option ((List Int))) (out189 : List Int) (i194 : Int) : Option ((List Int)) :=
  bif (decide (i194 < ((x37.length : Int)))) then obind (ix x23 kv5) fun x234 => obind (ix x37 i194) fun x243 => obind (ix r1.fItems x243) fun x245 => obind (d_spec_l1Has fu x234 x245.fClass) fun x247 => bif x247 then obind (apnd 8 out189 (([i194] : List Int))) fun x257 => d_spec_UnitsOf_J1 fu k3 i194 x257 else d_spec_UnitsOf_J1 fu k3 i194 out189 else some (out189)
def d_spec_UnitsOf_L1 (fu : Nat)  (r1 : Request) (kv5 : Int) (x23 : (List (List Int))) (x37 : (List Int)) : Nat → List Int → Int → Option ((List Int))
  | 0 => fun _ _ => none
  | n + 1 => d_spec_UnitsOf_L1_B fu r1 kv5 x23 x37 (d_spec_UnitsOf_L1 fu r1 kv5 x23 x37 n)
theorem d_spec_UnitsOf_L1_s (fu : Nat)  (r1 : Request) (kv5 : Int) (x23 : (List (List Int))) (x37 : (List Int)) (n : Nat) : d_spec_UnitsOf_L1 fu r1 kv5 x23 x37 (n + 1) = d_spec_UnitsOf_L1_B fu r1 kv5 x23 x37 (d_spec_UnitsOf_L1 fu r1 kv5 x23 x37 n) := rfl

def d_spec_UnitsOf (fu : Nat) (r1 : Request) (kv5 : Int) : Option ((List Int)) :=
  obind (d_spec_GroupsOf fu r1) fun x23 => obind (d_spec_l1In fu kv5 0 (w64 (((x23.length : Int)) - 1))) fun x32 => bif (!x32) then some (([] : List Int)) else obind (d_spec_l6Units fu r1) fun x37 => d_spec_UnitsOf_L1 fu r1 kv5 x23 x37 fu (([] : List Int)) 0

def d_spec_Units (fu : Nat) (r1 : Request) : Option ((List Int)) :=
  obind (d_spec_Class fu r1) fun x17 => bif (x17 != 0) then some (([] : List Int)) else obind (d_spec_l6Units fu r1) fun x27 => some (x27)

def d_spec_l6Item (fu : Nat) (r1 : Request) (units5 : List Int) (u9 : Int) : Option (Item × Bool) :=
  obind (d_spec_l1In fu u9 0 (w64 (((units5.length : Int)) - 1))) fun x25 => bif (!x25) then some ((⟨0, 0, 0, 0, 0, 0, 0⟩ : Item), false) else obind (ix units5 u9) fun x33 => obind (ix r1.fItems x33) fun x35 => some (x35, true)

def d_spec_GramOf_J1 (fu : Nat) (k7 : Int → Int → Option (Int)) (i262 : Int) (n321 : Int) : Option (Int) :=
  k7 n321 (w64 (i262 + 1))

def d_spec_GramOf_J2 (fu : Nat) (k7 : Int → Int → Option (Int)) (n261 : Int) (i262 : Int) (i351 : Item) : Option (Int) :=
  d_spec_GramOf_J1 fu k7 i262 (w64 (n261 + i351.fGram))

def d_spec_GramOf_L1_B (fu : Nat)  (r1 : Request) (units5 : List Int) (x21 : (List Int)) (k7 : Int → Int → Option (Int)) (n261 : Int) (i262 : Int) : Option (Int) :=
  bif (decide (i262 < ((units5.length : Int)))) then obind (ix units5 i262) fun x353 => obind (d_spec_l6Item fu r1 x21 x353) fun x355 => d_spec_GramOf_J2 fu k7 n261 i262 x355.1 else some (n261)
def d_spec_GramOf_L1 (fu : Nat)  (r1 : Request) (units5 : List Int) (x21 : (List Int)) : Nat → Int → Int → Option (Int)
  | 0 => fun _ _ => none
  | n + 1 => d_spec_GramOf_L1_B fu r1 units5 x21 (d_spec_GramOf_L1 fu r1 units5 x21 n)
theorem d_spec_GramOf_L1_s (fu : Nat)  (r1 : Request) (units5 : List Int) (x21 : (List Int)) (n : Nat) : d_spec_GramOf_L1 fu r1 units5 x21 (n + 1) = d_spec_GramOf_L1_B fu r1 units5 x21 (d_spec_GramOf_L1 fu r1 units5 x21 n) := rfl

def d_spec_GramOf (fu : Nat) (r1 : Request) (units5 : List Int) : Option (Int) :=
  obind (d_spec_Units fu r1) fun x21 => d_spec_GramOf_L1 fu r1 units5 x21 fu 0 0

def d_spec_SlackGram (fu : Nat) (r1 : Request) (kv5 : Int) : Option (Bool) :=
  obind (d_spec_MasterOf fu r1) fun x18 => obind (d_spec_l17Group fu r1 kv5) fun x28 => bif x28 then obind (d_spec_UnitsOf fu r1 kv5) fun x33 => obind (d_spec_GramOf fu r1 x33) fun x43 => some (decide (x43 ≤ x18.1.fGram)) else some (false)

theorem c_spec_Class (fu : Nat) {w0 : World} (r1 : Request) {cs2 : List Value} {F3 : List Nat} (hp4 : rd w0 F3 cs2 r1) {r : Int}
    (h : d_spec_Class fu r1 = some r) :
    Calls Tryz.prog 68 #[.agg cs2.toArray] w0 fun e w => e = .returned (.int .i64 (r)) ∧ Ext [] w0 w := by
  refine enter (vs := [_]) Tryz.func68 rfl Tryz.ntmps68 rfl fun a hK => ?_
  have hM := St.start w0
  obtain ⟨v5, F6, v7, F8, v9, F10, rfl, rfl, hf11, hf12, hf13⟩ := hp4
  unfold d_spec_Class at h
  refine wp_seq ?_
  refine wp_region_lit ?_
  refine s_box (cs := [.int .i64 (r1.fWay), .int .i64 (r1.fPallet.fW), .int .i64 (r1.fPallet.fD), .int .i64 (r1.fPallet.fH), .int .i64 (r1.fPallet.fGram), .int .i64 (r1.fClasses), v5, v7, .int .i64 (r1.fMaster), v9]) hM hK rfl rfl rfl rfl rfl rfl fun b14 w16 a hK hM hE hb15 => ?_
  refine s1 hK rfl rfl rfl rfl fun a hK => ?_
  refine wpList_nil (nm_then ?_)
  refine wp_seq ?_
  refine wp_seq ?_
  refine wp_region_lit ?_
  refine s_val hK rfl rfl rfl (r_ldB ta40 hM 0 hb15 0 hK rfl rfl rfl rfl rfl rfl) fun a hK => ?_
  obtain ⟨x17, hx18, h⟩ := obind_some h
  refine s_call hK Tryz.call132 rfl rfl rfl rfl rfl (c_spec_BoundsOk fu _ (show rd _ _ [.int .i64 (r1.fWay), .int .i64 (r1.fPallet.fW), .int .i64 (r1.fPallet.fD), .int .i64 (r1.fPallet.fH), .int .i64 (r1.fPallet.fGram), .int .i64 (r1.fClasses), v5, v7, .int .i64 (r1.fMaster), v9] (r1 : Request) from ⟨_, _, _, _, _, _, rfl, rfl, (Enc.rd_agr hf11 (hM.a00 (Enc.rd_lt hf11))), (Enc.rd_agr hf12 (hM.a00 (Enc.rd_lt hf12))), (Enc.rd_agr hf13 (hM.a00 (Enc.rd_lt hf13)))⟩) hx18) fun e19 w20 hR => ?_
  obtain ⟨rfl, hE⟩ := hR
  refine ⟨_, rfl, fun a hK => ?_⟩
  have hM := hM.step hE
  refine s1 hK rfl rfl rfl rfl fun a hK => ?_
  refine wpList_nil (nm_then ?_)
  refine c_cond (b := !x17) hK rfl (fun hb21 => ?_) (fun hb21 => ?_)
  · have h := bif_t hb21 h
    refine wp_seq ?_
    refine wp_region_lit ?_
    refine s1 hK rfl rfl rfl rfl fun a hK => ?_
    refine wpList_nil (nm_then ?_)
    refine wp_ret (rt_then ?_)
    have h := Option.some.inj h
    subst h
    exact finR1 hK rfl (RV.tmp hK rfl) ⟨rfl, hM.ext⟩
  · have h := bif_f hb21 h
    refine wp_skip (nm_then ?_)
    refine wp_seq ?_
    refine wp_seq ?_
    refine wp_region_lit ?_
    refine s_val hK rfl rfl rfl (r_ldB ta40 hM 0 hb15 0 hK rfl rfl rfl rfl rfl rfl) fun a hK => ?_
    obtain ⟨x22, hx23, h⟩ := obind_some h
    refine s_call hK Tryz.call133 rfl rfl rfl rfl rfl (c_spec_l5Names fu _ (show rd _ _ [.int .i64 (r1.fWay), .int .i64 (r1.fPallet.fW), .int .i64 (r1.fPallet.fD), .int .i64 (r1.fPallet.fH), .int .i64 (r1.fPallet.fGram), .int .i64 (r1.fClasses), v5, v7, .int .i64 (r1.fMaster), v9] (r1 : Request) from ⟨_, _, _, _, _, _, rfl, rfl, (Enc.rd_agr hf11 (hM.a00 (Enc.rd_lt hf11))), (Enc.rd_agr hf12 (hM.a00 (Enc.rd_lt hf12))), (Enc.rd_agr hf13 (hM.a00 (Enc.rd_lt hf13)))⟩) hx23) fun e24 w25 hR => ?_
    obtain ⟨rfl, hE⟩ := hR
    refine ⟨_, rfl, fun a hK => ?_⟩
    have hM := hM.step hE
    refine s1 hK rfl rfl rfl rfl fun a hK => ?_
    refine wpList_nil (nm_then ?_)
    refine c_cond (b := !x22) hK rfl (fun hb26 => ?_) (fun hb26 => ?_)
    · have h := bif_t hb26 h
      refine wp_seq ?_
      refine wp_region_lit ?_
      refine s1 hK rfl rfl rfl rfl fun a hK => ?_
      refine wpList_nil (nm_then ?_)
      refine wp_ret (rt_then ?_)
      have h := Option.some.inj h
      subst h
      exact finR1 hK rfl (RV.tmp hK rfl) ⟨rfl, hM.ext⟩
    · have h := bif_f hb26 h
      refine wp_skip (nm_then ?_)
      refine wp_seq ?_
      refine wp_seq ?_
      refine wp_region_lit ?_
      refine s_val hK rfl rfl rfl (r_fa fa40_3 hK rfl rfl) fun a hK => ?_
      refine s_val hK rfl rfl rfl (r_ldb t136 hM 0 hb15 6 hK rfl rfl rfl rfl rfl) fun a hK => ?_
      refine s_val hK rfl rfl rfl (r_fa fa40_2 hK rfl rfl) fun a hK => ?_
      refine s_val hK rfl rfl rfl (r_ldb t13 hM 0 hb15 5 hK rfl rfl rfl rfl rfl) fun a hK => ?_
      obtain ⟨x27, hx28, h⟩ := obind_some h
      refine s_call hK Tryz.call134 rfl rfl rfl rfl rfl (c_spec_TableOk fu _ _ (Enc.rd_agr hf11 (hM.a00 (Enc.rd_lt hf11))) hx28) fun e29 w30 hR => ?_
      obtain ⟨rfl, hE⟩ := hR
      refine ⟨_, rfl, fun a hK => ?_⟩
      have hM := hM.step hE
      refine s1 hK rfl rfl rfl rfl fun a hK => ?_
      refine wpList_nil (nm_then ?_)
      refine c_cond (b := !x27) hK rfl (fun hb31 => ?_) (fun hb31 => ?_)
      · have h := bif_t hb31 h
        refine wp_seq ?_
        refine wp_region_lit ?_
        refine s1 hK rfl rfl rfl rfl fun a hK => ?_
        refine wpList_nil (nm_then ?_)
        refine wp_ret (rt_then ?_)
        have h := Option.some.inj h
        subst h
        exact finR1 hK rfl (RV.tmp hK rfl) ⟨rfl, hM.ext⟩
      · have h := bif_f hb31 h
        refine wp_skip (nm_then ?_)
        refine wp_seq ?_
        refine wp_region_lit ?_
        refine s_val hK rfl rfl rfl (r_ldB ta40 hM 0 hb15 0 hK rfl rfl rfl rfl rfl rfl) fun a hK => ?_
        obtain ⟨x32, hx33, h⟩ := obind_some h
        refine s_call hK Tryz.call88 rfl rfl rfl rfl rfl (c_spec_MasterOf fu _ (show rd _ _ [.int .i64 (r1.fWay), .int .i64 (r1.fPallet.fW), .int .i64 (r1.fPallet.fD), .int .i64 (r1.fPallet.fH), .int .i64 (r1.fPallet.fGram), .int .i64 (r1.fClasses), v5, v7, .int .i64 (r1.fMaster), v9] (r1 : Request) from ⟨_, _, _, _, _, _, rfl, rfl, (Enc.rd_agr hf11 (hM.a00 (Enc.rd_lt hf11))), (Enc.rd_agr hf12 (hM.a00 (Enc.rd_lt hf12))), (Enc.rd_agr hf13 (hM.a00 (Enc.rd_lt hf13)))⟩) hx33) fun e34 w35 hR => ?_
        obtain ⟨rfl, hE⟩ := hR
        refine ⟨_, rfl, fun a hK => ?_⟩
        have hM := hM.step hE
        iterate 3 (refine s1 hK rfl rfl rfl rfl fun a hK => ?_)
        refine s_alloc (cs := [.int .i64 (0), .int .i64 (0), .int .i64 (0), .int .i64 (0), .int .i64 (0), .int .i64 (0), .int .i64 (0)]) hM hK Tryz.zeroValue92 rfl rfl rfl rfl rfl fun b36 w38 a hK hM hE hb37 => ?_
        refine s_stb (cs' := [.int .i64 (x32.1.fId), .int .i64 (x32.1.fW), .int .i64 (x32.1.fH), .int .i64 (x32.1.fD), .int .i64 (x32.1.fTare), .int .i64 (x32.1.fGram), .int .i64 (x32.1.fCost)]) Tryz.sizeOf92 hM 0 hb37 0 hK rfl rfl rfl rfl rfl rfl rfl rfl rfl rfl rfl fun w39 a hK hE hM hb40 => ?_
        refine s1 hK rfl rfl rfl rfl fun a hK => ?_
        refine wpList_nil (nm_then ?_)
        refine wp_seq ?_
        refine wp_seq ?_
        refine wp_region_lit ?_
        refine s1 hK rfl rfl rfl rfl fun a hK => ?_
        refine wpList_nil (nm_then ?_)
        refine wp_block ?_
        refine c_loop (fun n a w => ∃ (i63 : Int), K 85 [(1, .pointer (some (⟨b14, 0, none⟩ : Addr))), (3, .pointer (some (⟨b36, 0, none⟩ : Addr))), (5, .int .i64 (i63))] a ∧ St [] w0 w [([b14], w16), ([b36], w39)] ∧ d_spec_Class_L2 fu r1 x32 n i63 = some r) ?_ ?_ fu _ _ ?_
        · rintro a w ⟨_, _, _, h⟩
          cases (show none = some _ from h)
        · rintro m64 a w62 ⟨i63, hK, hM, h⟩
          rw [d_spec_Class_L2_s] at h
          unfold d_spec_Class_L2_B at h
          refine wp_seq ?_
          refine wp_seq ?_
          refine wp_region_lit ?_
          refine s1 hK rfl rfl rfl rfl fun a hK => ?_
          refine s_val hK rfl rfl rfl (r_fa fa40_6 hK rfl rfl) fun a hK => ?_
          refine s_val hK rfl rfl rfl (r_ldb t138 hM 0 hb15 9 hK rfl rfl rfl rfl rfl) fun a hK => ?_
          refine s_val hK rfl rfl rfl (r_len (α := Item) hf13 hK Tryz.underlying38 rfl rfl) fun a hK => ?_
          refine s1 hK rfl rfl rfl rfl fun a hK => ?_
          refine wpList_nil (nm_then ?_)
          refine c_cond (b := decide (i63 < ((r1.fItems.length : Int)))) hK rfl (fun hb65 => ?_) (fun hb65 => ?_)
          · have h := bif_t hb65 h
            refine wp_skip (nm_then ?_)
            refine wp_seq ?_
            refine wp_block ?_
            refine wp_seq ?_
            refine d_go [] mixo hM rfl fun w66 hMd => ?_
            have hM := hMd
            have hS := Ext.refl ([] : List Nat) w66
            refine d_take hK 0 rfl (by kernel_rfl) (by kernel_rfl) (by kernel_rfl) rfl rfl rfl hS (fun _ _ _ h => h) (fun w hS => r_fa fa40_6 hK rfl rfl) fun a hK => ?_
            refine d_take hK 1 rfl (by kernel_rfl) (by kernel_rfl) (by kernel_rfl) rfl rfl rfl hS (fun _ _ _ h => h) (fun w hS => r_ld1 t138 (r := []) (hb15.at ((hMd.step hS).a 0 rfl) 9 1 rfl rfl rfl) hK rfl rfl) fun a hK => ?_
            refine d_pure hK 2 rfl (by kernel_rfl) (by kernel_rfl) (by kernel_rfl) rfl rfl rfl hS (fun _ _ _ h => h) rfl fun a hK => ?_
            obtain ⟨x67, hx68, h⟩ := obind_some h
            refine d_take hK 3 rfl (by kernel_rfl) (by kernel_rfl) (by kernel_rfl) rfl rfl rfl hS (fun _ _ _ h => h) (fun w hS => r_ixa hf13 hx68 hK ts38 rfl rfl rfl) fun a hK => ?_
            refine d_take hK 4 rfl (by kernel_rfl) (by kernel_rfl) (by kernel_rfl) rfl rfl rfl hS (fun _ _ _ h => h) (fun w hS => r_lde hf13 ((hMd.step hS).a00 (Enc.rd_lt hf13)) hx68 ta120 hK rfl rfl) fun a hK => ?_
            refine d_take hK 5 rfl (by kernel_rfl) (by kernel_rfl) (by kernel_rfl) rfl rfl rfl hS (fun _ _ _ h => h) (fun w hS => r_ldA ta92 (hb40.at ((hMd.step hS).a 1 rfl) 0 7 rfl rfl rfl) rfl hK rfl rfl) fun a hK => ?_
            refine d_one 6 (by kernel_rfl) rfl ?_
            obtain ⟨x69, hx70, h⟩ := obind_some h
            refine s_call hK Tryz.call135 rfl rfl rfl rfl rfl (c_spec_Fits fu (x67 : Item) (x32.1 : Typ)  hx70) fun e71 w72 hR => ?_
            obtain ⟨rfl, hE⟩ := hR
            refine ⟨_, rfl, fun a hK => ?_⟩
            have hM := hM.step hE
            have hS := hS.trans hE (by simp)
            refine wpList_nil ⟨hS, ?_⟩
            refine d_pure hK 7 rfl (by kernel_rfl) (by kernel_rfl) (by kernel_rfl) rfl rfl rfl hS (fun _ _ _ h => h) rfl fun a hK => ?_
            refine d_done (by kernel_rfl) ?_
            refine (nm_then ?_)
            refine c_cond (b := !x69) hK rfl (fun hb73 => ?_) (fun hb73 => ?_)
            · have h := bif_t hb73 h
              refine wp_seq ?_
              refine wp_region_lit ?_
              refine s1 hK rfl rfl rfl rfl fun a hK => ?_
              refine wpList_nil (nm_then ?_)
              refine wp_ret (rt_block (rt_then (rt_then (rt_block (rt_then ?_)))))
              have h := Option.some.inj h
              subst h
              exact finR1 hK rfl (RV.tmp hK rfl) ⟨rfl, hM.ext⟩
            · have h := bif_f hb73 h
              refine wp_skip (nm_block (nm_then ?_))
              refine wp_region_lit ?_
              iterate 3 (refine s1 hK rfl rfl rfl rfl fun a hK => ?_)
              refine wpList_nil (nm_then ?_)
              exact ⟨w64 (i63 + 1), hK.keep [1, 3, 5] rfl, hM.sel [0, 1] rfl (by decide), h⟩
          · have h := bif_f hb65 h
            refine wp_exit (ex_then (ex_then (ex_same (nm_then ?_))))
            refine wp_seq ?_
            refine wp_seq ?_
            refine wp_region_lit ?_
            refine s1 hK rfl rfl rfl rfl fun a hK => ?_
            refine wpList_nil (nm_then ?_)
            refine wp_block ?_
            refine c_loop (fun n a w => ∃ (i126 : Int), K 85 [(1, .pointer (some (⟨b14, 0, none⟩ : Addr))), (6, .int .i64 (i126))] a ∧ St [] w0 w [([b14], w16)] ∧ d_spec_Class_L1 fu r1 n i126 = some r) ?_ ?_ fu _ _ ?_
            · rintro a w ⟨_, _, _, h⟩
              cases (show none = some _ from h)
            · rintro m127 a w125 ⟨i126, hK, hM, h⟩
              rw [d_spec_Class_L1_s] at h
              unfold d_spec_Class_L1_B at h
              refine wp_seq ?_
              refine wp_seq ?_
              refine wp_region_lit ?_
              refine s1 hK rfl rfl rfl rfl fun a hK => ?_
              refine s_val hK rfl rfl rfl (r_fa fa40_4 hK rfl rfl) fun a hK => ?_
              refine s_val hK rfl rfl rfl (r_ldb t137 hM 0 hb15 7 hK rfl rfl rfl rfl rfl) fun a hK => ?_
              refine s_val hK rfl rfl rfl (r_len (α := Typ) hf12 hK Tryz.underlying37 rfl rfl) fun a hK => ?_
              refine s1 hK rfl rfl rfl rfl fun a hK => ?_
              refine wpList_nil (nm_then ?_)
              refine c_cond (b := decide (i126 < ((r1.fTypes.length : Int)))) hK rfl (fun hb128 => ?_) (fun hb128 => ?_)
              · have h := bif_t hb128 h
                refine wp_skip (nm_then ?_)
                refine c_cut (fun a w => K 85 [(1, .pointer (some (⟨b14, 0, none⟩ : Addr))), (6, .int .i64 (i126))] a ∧ St [] w0 w [([b14], w16)] ∧ d_spec_Class_J1 fu (d_spec_Class_L1 fu r1 m127) i126 = some r) ?_ ?_
                · rintro a w140 ⟨hK, hM, h⟩
                  unfold d_spec_Class_J1 at h
                  refine wp_region_lit ?_
                  iterate 3 (refine s1 hK rfl rfl rfl rfl fun a hK => ?_)
                  refine wpList_nil (nm_then ?_)
                  exact ⟨w64 (i126 + 1), hK.keep [1, 6] rfl, hM.sel [0] rfl (by decide), h⟩
                · refine wp_block ?_
                  refine wp_seq ?_
                  refine wp_region_lit ?_
                  refine s_val hK rfl rfl rfl (r_fa fa40_4 hK rfl rfl) fun a hK => ?_
                  refine s_val hK rfl rfl rfl (r_ldb t137 hM 0 hb15 7 hK rfl rfl rfl rfl rfl) fun a hK => ?_
                  refine s1 hK rfl rfl rfl rfl fun a hK => ?_
                  obtain ⟨x141, hx142, h⟩ := obind_some h
                  refine s_val hK rfl rfl rfl (r_ixa hf12 hx142 hK ts37 rfl rfl rfl) fun a hK => ?_
                  refine s_val hK rfl rfl rfl (r_lde hf12 (hM.a00 (Enc.rd_lt hf12)) hx142 ta92 hK rfl rfl) fun a hK => ?_
                  refine s_alloc (cs := [.int .i64 (0), .int .i64 (0), .int .i64 (0), .int .i64 (0), .int .i64 (0), .int .i64 (0), .int .i64 (0)]) hM hK Tryz.zeroValue92 rfl rfl rfl rfl rfl fun b143 w145 a hK hM hE hb144 => ?_
                  refine s_stb (cs' := [.int .i64 (x141.fId), .int .i64 (x141.fW), .int .i64 (x141.fH), .int .i64 (x141.fD), .int .i64 (x141.fTare), .int .i64 (x141.fGram), .int .i64 (x141.fCost)]) Tryz.sizeOf92 hM 0 hb144 0 hK rfl rfl rfl rfl rfl rfl rfl rfl rfl rfl rfl fun w146 a hK hE hM hb147 => ?_
                  refine wpList_nil (nm_then ?_)
                  refine wp_seq ?_
                  refine wp_region_lit ?_
                  refine s_val hK rfl rfl rfl (r_fa fa92_1 hK rfl rfl) fun a hK => ?_
                  refine s_val hK rfl rfl rfl (r_ldb t13 hM 0 hb147 1 hK rfl rfl rfl rfl rfl) fun a hK => ?_
                  refine s_val hK rfl rfl rfl (r_fa fa40_1 hK rfl rfl) fun a hK => ?_
                  refine s_val hK rfl rfl rfl (r_fa fa35_0 hK rfl rfl) fun a hK => ?_
                  refine s_val hK rfl rfl rfl (r_ldb t13 hM 1 hb15 1 hK rfl rfl rfl rfl rfl) fun a hK => ?_
                  iterate 2 (refine s1 hK rfl rfl rfl rfl fun a hK => ?_)
                  refine bsplit (decide (x141.fW > r1.fPallet.fW)) (fun hb148 => ?_) (fun hb148 => ?_)
                  · have h := bif_t hb148 h
                    have hK := hK.re (d := 58) rfl (congrArg Value.bool hb148)
                    refine sk hK rfl rfl rfl fun a hK => ?_
                    refine sk hK rfl rfl rfl fun a hK => ?_
                    refine sk hK rfl rfl rfl fun a hK => ?_
                    refine sk hK rfl rfl rfl fun a hK => ?_
                    refine sk hK rfl rfl rfl fun a hK => ?_
                    refine sk hK rfl rfl rfl fun a hK => ?_
                    iterate 2 (refine s1 hK rfl rfl rfl rfl fun a hK => ?_)
                    refine sk hK rfl rfl rfl fun a hK => ?_
                    refine sk hK rfl rfl rfl fun a hK => ?_
                    refine sk hK rfl rfl rfl fun a hK => ?_
                    refine sk hK rfl rfl rfl fun a hK => ?_
                    refine sk hK rfl rfl rfl fun a hK => ?_
                    refine sk hK rfl rfl rfl fun a hK => ?_
                    iterate 2 (refine s1 hK rfl rfl rfl rfl fun a hK => ?_)
                    refine sk hK rfl rfl rfl fun a hK => ?_
                    refine sk hK rfl rfl rfl fun a hK => ?_
                    refine sk hK rfl rfl rfl fun a hK => ?_
                    refine sk hK rfl rfl rfl fun a hK => ?_
                    refine sk hK rfl rfl rfl fun a hK => ?_
                    refine sk hK rfl rfl rfl fun a hK => ?_
                    refine sk hK rfl rfl rfl fun a hK => ?_
                    refine sk hK rfl rfl rfl fun a hK => ?_
                    refine sk hK rfl rfl rfl fun a hK => ?_
                    refine s1 hK rfl rfl rfl rfl fun a hK => ?_
                    have hK := hK.keep [1, 6, 84] rfl
                    refine wpList_nil (nm_then ?_)
                    refine wp_cond_true (hK.ev rfl) ?_
                    refine wp_seq ?_
                    refine wp_region_lit ?_
                    refine s1 hK rfl rfl rfl rfl fun a hK => ?_
                    refine wpList_nil (nm_then ?_)
                    refine wp_ret (rt_block (rt_then (rt_then (rt_block (rt_then ?_)))))
                    have h := Option.some.inj h
                    subst h
                    exact finR1 hK rfl (RV.tmp hK rfl) ⟨rfl, hM.ext⟩
                  · have h := bif_f hb148 h
                    have hK := hK.re (d := 58) rfl (congrArg Value.bool hb148)
                    refine s_val hK rfl rfl rfl (r_fa fa92_3 hK rfl rfl) fun a hK => ?_
                    refine s_val hK rfl rfl rfl (r_ldb t13 hM 0 hb147 3 hK rfl rfl rfl rfl rfl) fun a hK => ?_
                    refine s_val hK rfl rfl rfl (r_fa fa40_1 hK rfl rfl) fun a hK => ?_
                    refine s_val hK rfl rfl rfl (r_fa fa35_1 hK rfl rfl) fun a hK => ?_
                    refine s_val hK rfl rfl rfl (r_ldb t13 hM 1 hb15 2 hK rfl rfl rfl rfl rfl) fun a hK => ?_
                    iterate 3 (refine s1 hK rfl rfl rfl rfl fun a hK => ?_)
                    refine bsplit (decide (x141.fD > r1.fPallet.fD)) (fun hb149 => ?_) (fun hb149 => ?_)
                    · have h := bif_t hb149 h
                      have hK := hK.re (d := 66) rfl (congrArg Value.bool hb149)
                      refine sk hK rfl rfl rfl fun a hK => ?_
                      refine sk hK rfl rfl rfl fun a hK => ?_
                      refine sk hK rfl rfl rfl fun a hK => ?_
                      refine sk hK rfl rfl rfl fun a hK => ?_
                      refine sk hK rfl rfl rfl fun a hK => ?_
                      refine sk hK rfl rfl rfl fun a hK => ?_
                      iterate 2 (refine s1 hK rfl rfl rfl rfl fun a hK => ?_)
                      refine sk hK rfl rfl rfl fun a hK => ?_
                      refine sk hK rfl rfl rfl fun a hK => ?_
                      refine sk hK rfl rfl rfl fun a hK => ?_
                      refine sk hK rfl rfl rfl fun a hK => ?_
                      refine sk hK rfl rfl rfl fun a hK => ?_
                      refine sk hK rfl rfl rfl fun a hK => ?_
                      refine sk hK rfl rfl rfl fun a hK => ?_
                      refine sk hK rfl rfl rfl fun a hK => ?_
                      refine sk hK rfl rfl rfl fun a hK => ?_
                      refine s1 hK rfl rfl rfl rfl fun a hK => ?_
                      have hK := hK.keep [1, 6, 84] rfl
                      refine wpList_nil (nm_then ?_)
                      refine wp_cond_true (hK.ev rfl) ?_
                      refine wp_seq ?_
                      refine wp_region_lit ?_
                      refine s1 hK rfl rfl rfl rfl fun a hK => ?_
                      refine wpList_nil (nm_then ?_)
                      refine wp_ret (rt_block (rt_then (rt_then (rt_block (rt_then ?_)))))
                      have h := Option.some.inj h
                      subst h
                      exact finR1 hK rfl (RV.tmp hK rfl) ⟨rfl, hM.ext⟩
                    · have h := bif_f hb149 h
                      have hK := hK.re (d := 66) rfl (congrArg Value.bool hb149)
                      refine s_val hK rfl rfl rfl (r_fa fa92_2 hK rfl rfl) fun a hK => ?_
                      refine s_val hK rfl rfl rfl (r_ldb t13 hM 0 hb147 2 hK rfl rfl rfl rfl rfl) fun a hK => ?_
                      refine s_val hK rfl rfl rfl (r_fa fa40_1 hK rfl rfl) fun a hK => ?_
                      refine s_val hK rfl rfl rfl (r_fa fa35_2 hK rfl rfl) fun a hK => ?_
                      refine s_val hK rfl rfl rfl (r_ldb t13 hM 1 hb15 3 hK rfl rfl rfl rfl rfl) fun a hK => ?_
                      iterate 3 (refine s1 hK rfl rfl rfl rfl fun a hK => ?_)
                      refine bsplit (decide (x141.fH > r1.fPallet.fH)) (fun hb150 => ?_) (fun hb150 => ?_)
                      · have h := bif_t hb150 h
                        have hK := hK.re (d := 74) rfl (congrArg Value.bool hb150)
                        refine sk hK rfl rfl rfl fun a hK => ?_
                        refine sk hK rfl rfl rfl fun a hK => ?_
                        refine sk hK rfl rfl rfl fun a hK => ?_
                        refine sk hK rfl rfl rfl fun a hK => ?_
                        refine sk hK rfl rfl rfl fun a hK => ?_
                        refine sk hK rfl rfl rfl fun a hK => ?_
                        refine sk hK rfl rfl rfl fun a hK => ?_
                        refine sk hK rfl rfl rfl fun a hK => ?_
                        refine sk hK rfl rfl rfl fun a hK => ?_
                        refine s1 hK rfl rfl rfl rfl fun a hK => ?_
                        have hK := hK.keep [1, 6, 84] rfl
                        refine wpList_nil (nm_then ?_)
                        refine wp_cond_true (hK.ev rfl) ?_
                        refine wp_seq ?_
                        refine wp_region_lit ?_
                        refine s1 hK rfl rfl rfl rfl fun a hK => ?_
                        refine wpList_nil (nm_then ?_)
                        refine wp_ret (rt_block (rt_then (rt_then (rt_block (rt_then ?_)))))
                        have h := Option.some.inj h
                        subst h
                        exact finR1 hK rfl (RV.tmp hK rfl) ⟨rfl, hM.ext⟩
                      · have h := bif_f hb150 h
                        have hK := hK.re (d := 74) rfl (congrArg Value.bool hb150)
                        refine s_val hK rfl rfl rfl (r_fa fa92_4 hK rfl rfl) fun a hK => ?_
                        refine s_val hK rfl rfl rfl (r_ldb t13 hM 0 hb147 4 hK rfl rfl rfl rfl rfl) fun a hK => ?_
                        refine s_val hK rfl rfl rfl (r_fa fa92_5 hK rfl rfl) fun a hK => ?_
                        refine s_val hK rfl rfl rfl (r_ldb t13 hM 0 hb147 5 hK rfl rfl rfl rfl rfl) fun a hK => ?_
                        refine s1 hK rfl rfl rfl rfl fun a hK => ?_
                        refine s_val hK rfl rfl rfl (r_fa fa40_1 hK rfl rfl) fun a hK => ?_
                        refine s_val hK rfl rfl rfl (r_fa fa35_3 hK rfl rfl) fun a hK => ?_
                        refine s_val hK rfl rfl rfl (r_ldb t13 hM 1 hb15 4 hK rfl rfl rfl rfl rfl) fun a hK => ?_
                        iterate 2 (refine s1 hK rfl rfl rfl rfl fun a hK => ?_)
                        have hK := hK.keep [1, 6, 84] rfl
                        refine wpList_nil (nm_then ?_)
                        refine c_cond (b := decide ((w64 (x141.fTare + x141.fGram)) > r1.fPallet.fGram)) hK rfl (fun hb151 => ?_) (fun hb151 => ?_)
                        · have h := bif_t hb151 h
                          refine wp_seq ?_
                          refine wp_region_lit ?_
                          refine s1 hK rfl rfl rfl rfl fun a hK => ?_
                          refine wpList_nil (nm_then ?_)
                          refine wp_ret (rt_block (rt_then (rt_then (rt_block (rt_then ?_)))))
                          have h := Option.some.inj h
                          subst h
                          exact finR1 hK rfl (RV.tmp hK rfl) ⟨rfl, hM.ext⟩
                        · have h := bif_f hb151 h
                          refine wp_skip (nm_block (nm_then ?_))
                          exact ⟨hK.keep [1, 6] rfl, hM.sel [1] rfl (by decide), h⟩
              · have h := bif_f hb128 h
                refine wp_exit (ex_then (ex_then (ex_same (nm_then ?_))))
                refine wp_seq ?_
                refine wp_region_lit ?_
                refine s1 hK rfl rfl rfl rfl fun a hK => ?_
                refine wpList_nil (nm_then ?_)
                refine wp_ret ?_
                have h := Option.some.inj h
                subst h
                exact finR1 hK rfl (RV.tmp hK rfl) ⟨rfl, hM.ext⟩
            · exact ⟨0, hK.keep [1, 6] rfl, hM.sel [0] rfl (by decide), h⟩
        · exact ⟨0, hK.keep [1, 3, 5] rfl, hM.sel [1, 0] rfl (by decide), h⟩

theorem c_spec_Present (fu : Nat) {w0 : World} (r1 : Request) {cs2 : List Value} {F3 : List Nat} (hp4 : rd w0 F3 cs2 r1) {r : (List Int)}
    (h : d_spec_Present fu r1 = some r) :
    Calls Tryz.prog 154 #[.agg cs2.toArray] w0 fun e w => ∃ (v0 : Value) (G0 : List Nat), e = .returned (v0) ∧ Ext [] w0 w ∧ ow w G0 [v0] r ∧ (∀ b ∈ G0, w0.heap.size ≤ b) := by
  refine enter (vs := [_]) Tryz.func154 rfl Tryz.ntmps154 rfl fun a hK => ?_
  have hM := St.start w0
  obtain ⟨v5, F6, v7, F8, v9, F10, rfl, rfl, hf11, hf12, hf13⟩ := hp4
  unfold d_spec_Present at h
  refine wp_seq ?_
  refine wp_region_lit ?_
  refine s_box (cs := [.int .i64 (r1.fWay), .int .i64 (r1.fPallet.fW), .int .i64 (r1.fPallet.fD), .int .i64 (r1.fPallet.fH), .int .i64 (r1.fPallet.fGram), .int .i64 (r1.fClasses), v5, v7, .int .i64 (r1.fMaster), v9]) hM hK rfl rfl rfl rfl rfl rfl fun b14 w16 a hK hM hE hb15 => ?_
  refine s1 hK rfl rfl rfl rfl fun a hK => ?_
  refine wpList_nil (nm_then ?_)
  refine wp_seq ?_
  refine wp_region_lit ?_
  refine s_bs (cs := []) (ps := []) te29 hM hK rfl rfl rfl rfl rfl rfl rfl (by decide) rfl (by exact (List.forall_mem_nil _)) fun g17 w18 e20 a hK hM hE hb19 => ?_
  have hf21 := ow_bx hb19 ([] : List Int) rfl rfl rfl
  refine s1 hK rfl rfl rfl rfl fun a hK => ?_
  refine wpList_nil (nm_then ?_)
  refine wp_seq ?_
  refine wp_seq ?_
  refine wp_region_lit ?_
  refine s_val hK rfl rfl rfl (r_ldB ta40 hM 1 hb15 0 hK rfl rfl rfl rfl rfl rfl) fun a hK => ?_
  obtain ⟨x22, hx23, h⟩ := obind_some h
  refine s_call hK Tryz.call68 rfl rfl rfl rfl rfl (c_spec_Class fu _ (show rd _ _ [.int .i64 (r1.fWay), .int .i64 (r1.fPallet.fW), .int .i64 (r1.fPallet.fD), .int .i64 (r1.fPallet.fH), .int .i64 (r1.fPallet.fGram), .int .i64 (r1.fClasses), v5, v7, .int .i64 (r1.fMaster), v9] (r1 : Request) from ⟨_, _, _, _, _, _, rfl, rfl, (Enc.rd_agr hf11 (hM.a00 (Enc.rd_lt hf11))), (Enc.rd_agr hf12 (hM.a00 (Enc.rd_lt hf12))), (Enc.rd_agr hf13 (hM.a00 (Enc.rd_lt hf13)))⟩) hx23) fun e24 w25 hR => ?_
  obtain ⟨rfl, hE⟩ := hR
  refine ⟨_, rfl, fun a hK => ?_⟩
  have hM := hM.step hE
  refine s1 hK rfl rfl rfl rfl fun a hK => ?_
  refine wpList_nil (nm_then ?_)
  refine c_cond (b := x22 != 0) hK rfl (fun hb26 => ?_) (fun hb26 => ?_)
  · have h := bif_t hb26 h
    refine wp_seq ?_
    refine wp_region_lit ?_
    iterate 2 (refine s1 hK rfl rfl rfl rfl fun a hK => ?_)
    refine wpList_nil (nm_then ?_)
    refine wp_ret (rt_then ?_)
    have h := Option.some.inj h
    subst h
    exact finR1 hK rfl (RV.tmp hK rfl) ⟨_, [g17], rfl, hM.ext, (Enc.ow_agr hf21 (hM.a 0 rfl)), (hM.fresh 0 rfl)⟩
  · have h := bif_f hb26 h
    refine wp_skip (nm_then ?_)
    refine wp_seq ?_
    refine wp_seq ?_
    refine wp_region_lit ?_
    refine s1 hK rfl rfl rfl rfl fun a hK => ?_
    refine wpList_nil (nm_then ?_)
    refine wp_block ?_
    refine c_loop (fun n a w => ∃ (out230 : List Int) (v231 : Value) (F232 : List Nat) (u233 : World) (class235 : Int), K 40 [(1, .pointer (some (⟨b14, 0, none⟩ : Addr))), (3, v231), (4, .int .i64 (class235))] a ∧ St [] w0 w [([b14], w16), (F232, u233)] ∧ ow u233 F232 [v231] out230 ∧ d_spec_Present_L2 fu r1 n out230 class235 = some r) ?_ ?_ fu _ _ ?_
    · rintro a w ⟨_, _, _, _, _, _, _, _, h⟩
      cases (show none = some _ from h)
    · rintro m236 a w229 ⟨out230, v231, F232, u233, class235, hK, hM, hf234, h⟩
      rw [d_spec_Present_L2_s] at h
      unfold d_spec_Present_L2_B at h
      refine wp_seq ?_
      refine wp_seq ?_
      refine wp_region_lit ?_
      iterate 2 (refine s1 hK rfl rfl rfl rfl fun a hK => ?_)
      refine wpList_nil (nm_then ?_)
      refine c_cond (b := decide (class235 < 4)) hK rfl (fun hb237 => ?_) (fun hb237 => ?_)
      · have h := bif_t hb237 h
        refine wp_skip (nm_then ?_)
        refine c_cut (fun a w => ∃ (out284 : List Int) (v285 : Value) (F286 : List Nat) (u287 : World), K 40 [(1, .pointer (some (⟨b14, 0, none⟩ : Addr))), (3, v285), (4, .int .i64 (class235))] a ∧ St [] w0 w [([b14], w16), (F286, u287)] ∧ ow u287 F286 [v285] out284 ∧ d_spec_Present_J1 fu (d_spec_Present_L2 fu r1 m236) class235 out284 = some r) ?_ ?_
        · rintro a w283 ⟨out284, v285, F286, u287, hK, hM, hf288, h⟩
          unfold d_spec_Present_J1 at h
          refine wp_region_lit ?_
          iterate 3 (refine s1 hK rfl rfl rfl rfl fun a hK => ?_)
          refine wpList_nil (nm_then ?_)
          exact ⟨out284, v285, F286, u287, w64 (class235 + 1), hK.keep [1, 3, 4] rfl, hM.sel [0, 1] rfl (by decide), hf288, h⟩
        · refine wp_block ?_
          refine wp_seq ?_
          refine wp_region_lit ?_
          refine s1 hK rfl rfl rfl rfl fun a hK => ?_
          refine wpList_nil (nm_then ?_)
          refine wp_seq ?_
          refine wp_seq ?_
          refine wp_region_lit ?_
          refine s1 hK rfl rfl rfl rfl fun a hK => ?_
          refine wpList_nil (nm_then ?_)
          refine wp_block ?_
          refine c_loop (fun n a w => ∃ (found310 : Bool) (i311 : Int), K 40 [(1, .pointer (some (⟨b14, 0, none⟩ : Addr))), (3, v231), (4, .int .i64 (class235)), (5, .bool (found310)), (6, .int .i64 (i311))] a ∧ St [] w0 w [([b14], w16), (F232, u233)] ∧ d_spec_Present_L1 fu (d_spec_Present_L2 fu r1 m236) r1 out230 class235 n found310 i311 = some r) ?_ ?_ fu _ _ ?_
          · rintro a w ⟨_, _, _, _, h⟩
            cases (show none = some _ from h)
          · rintro m312 a w309 ⟨found310, i311, hK, hM, h⟩
            rw [d_spec_Present_L1_s] at h
            unfold d_spec_Present_L1_B at h
            refine wp_seq ?_
            refine wp_seq ?_
            refine wp_region_lit ?_
            refine s1 hK rfl rfl rfl rfl fun a hK => ?_
            refine s_val hK rfl rfl rfl (r_fa fa40_6 hK rfl rfl) fun a hK => ?_
            refine s_val hK rfl rfl rfl (r_ldb t138 hM 0 hb15 9 hK rfl rfl rfl rfl rfl) fun a hK => ?_
            refine s_val hK rfl rfl rfl (r_len (α := Item) hf13 hK Tryz.underlying38 rfl rfl) fun a hK => ?_
            refine s1 hK rfl rfl rfl rfl fun a hK => ?_
            refine wpList_nil (nm_then ?_)
            refine c_cond (b := decide (i311 < ((r1.fItems.length : Int)))) hK rfl (fun hb313 => ?_) (fun hb313 => ?_)
            · have h := bif_t hb313 h
              refine wp_skip (nm_then ?_)
              refine c_cut (fun a w => ∃ (found318 : Bool), K 40 [(1, .pointer (some (⟨b14, 0, none⟩ : Addr))), (3, v231), (4, .int .i64 (class235)), (5, .bool (found318)), (6, .int .i64 (i311))] a ∧ St [] w0 w [([b14], w16), (F232, u233)] ∧ d_spec_Present_J2 fu (d_spec_Present_L1 fu (d_spec_Present_L2 fu r1 m236) r1 out230 class235 m312) i311 found318 = some r) ?_ ?_
              · rintro a w317 ⟨found318, hK, hM, h⟩
                unfold d_spec_Present_J2 at h
                refine wp_region_lit ?_
                iterate 3 (refine s1 hK rfl rfl rfl rfl fun a hK => ?_)
                refine wpList_nil (nm_then ?_)
                exact ⟨found318, w64 (i311 + 1), hK.keep [1, 3, 4, 5, 6] rfl, hM.sel [0, 1] rfl (by decide), h⟩
              · refine wp_block ?_
                refine wp_region_lit ?_
                iterate 2 (refine s1 hK rfl rfl rfl rfl fun a hK => ?_)
                refine bsplit (found310) (fun hb319 => ?_) (fun hb319 => ?_)
                · have h := bif_t hb319 h
                  have hK := hK.re (d := 24) rfl (congrArg Value.bool hb319)
                  refine sk hK rfl rfl rfl fun a hK => ?_
                  refine sk hK rfl rfl rfl fun a hK => ?_
                  refine sk hK rfl rfl rfl fun a hK => ?_
                  refine sk hK rfl rfl rfl fun a hK => ?_
                  refine sk hK rfl rfl rfl fun a hK => ?_
                  refine sk hK rfl rfl rfl fun a hK => ?_
                  refine sk hK rfl rfl rfl fun a hK => ?_
                  refine sk hK rfl rfl rfl fun a hK => ?_
                  iterate 2 (refine s1 hK rfl rfl rfl rfl fun a hK => ?_)
                  refine wpList_nil (nm_block (nm_then ?_))
                  exact ⟨true, hK.keep [1, 3, 4, 5, 6] rfl, hM.sel [0, 1] rfl (by decide), h⟩
                · have h := bif_f hb319 h
                  have hK := hK.re (d := 24) rfl (congrArg Value.bool hb319)
                  refine s_val hK rfl rfl rfl (r_fa fa40_6 hK rfl rfl) fun a hK => ?_
                  refine s_val hK rfl rfl rfl (r_ldb t138 hM 0 hb15 9 hK rfl rfl rfl rfl rfl) fun a hK => ?_
                  refine s1 hK rfl rfl rfl rfl fun a hK => ?_
                  obtain ⟨x320, hx321, h⟩ := obind_some h
                  refine s_val hK rfl rfl rfl (r_ixa hf13 hx321 hK ts38 rfl rfl rfl) fun a hK => ?_
                  refine s_val hK rfl rfl rfl (r_fa fa120_5 hK rfl rfl) fun a hK => ?_
                  refine s_val hK rfl rfl rfl (r_lde1 hf13 (hM.a00 (Enc.rd_lt hf13)) hx321 5 t13 hK rfl rfl rfl rfl) fun a hK => ?_
                  iterate 4 (refine s1 hK rfl rfl rfl rfl fun a hK => ?_)
                  refine wpList_nil (nm_block (nm_then ?_))
                  exact ⟨x320.fClass == class235, hK.keep [1, 3, 4, 5, 6] rfl, hM.sel [0, 1] rfl (by decide), h⟩
            · have h := bif_f hb313 h
              refine wp_exit (ex_then (ex_then (ex_same (nm_then ?_))))
              refine wp_seq ?_
              refine wp_region_lit ?_
              refine s1 hK rfl rfl rfl rfl fun a hK => ?_
              refine wpList_nil (nm_then ?_)
              refine c_cond (b := found310) hK rfl (fun hb322 => ?_) (fun hb322 => ?_)
              · have h := bif_t hb322 h
                refine wp_region_lit ?_
                iterate 2 (refine s1 hK rfl rfl rfl rfl fun a hK => ?_)
                refine s_bs (cs := [.int .i64 (class235)]) (ps := [(0, .tmp 36)]) te29 hM hK rfl rfl rfl rfl rfl rfl rfl (by decide) rfl (by exact (List.forall_mem_cons.2 ⟨rfl, (List.forall_mem_nil _)⟩)) fun g323 w324 e326 a hK hM hE hb325 => ?_
                have hf327 := ow_bx hb325 ([class235] : List Int) rfl rfl rfl
                obtain ⟨x328, hx329, h⟩ := obind_some h
                refine s_appF hx329 te29 rfl hM 2 hf234 (News.rd (Enc.rd_agr (Enc.ow_rd hf327) (hM.a 0 rfl))) rfl rfl hK rfl rfl rfl rfl rfl rfl rfl fun v330 F331 w332 a hK hE hM hf333 => ?_
                refine s1 hK rfl rfl rfl rfl fun a hK => ?_
                refine wpList_nil (nm_block (nm_then ?_))
                exact ⟨x328, v330, F331, w332, hK.keep [1, 3, 4] rfl, hM.sel [1, 2] rfl (by decide), hf333, h⟩
              · have h := bif_f hb322 h
                refine wp_skip (nm_block (nm_then ?_))
                exact ⟨out230, v231, F232, u233, hK.keep [1, 3, 4] rfl, hM.sel [0, 1] rfl (by decide), hf234, h⟩
          · exact ⟨false, 0, hK.keep [1, 3, 4, 5, 6] rfl, hM.sel [0, 1] rfl (by decide), h⟩
      · have h := bif_f hb237 h
        refine wp_exit (ex_then (ex_then (ex_same (nm_then ?_))))
        refine wp_seq ?_
        refine wp_region_lit ?_
        iterate 2 (refine s1 hK rfl rfl rfl rfl fun a hK => ?_)
        refine wpList_nil (nm_then ?_)
        refine wp_ret ?_
        have h := Option.some.inj h
        subst h
        exact finR1 hK rfl (RV.tmp hK rfl) ⟨_, F232, rfl, hM.ext, (Enc.ow_agr hf234 (hM.a 1 rfl)), (hM.fresh 1 rfl)⟩
    · exact ⟨([] : List Int), (.slice (some ⟨g17, 0, none⟩) 0 0), [g17], w18, 0, hK.keep [1, 3, 4] rfl, hM.sel [1, 0] rfl (by decide), hf21, h⟩

theorem c_spec_l1Has (fu : Nat) {w0 : World} (list1 : List Int) (x5 : Int) {v2 : Value} {F3 : List Nat} (hp4 : rd w0 F3 [v2] list1) {r : Bool}
    (h : d_spec_l1Has fu list1 x5 = some r) :
    Calls Tryz.prog 96 #[v2, .int .i64 (x5)] w0 fun e w => e = .returned (.bool (r)) ∧ Ext [] w0 w := by
  refine enter (vs := [_, _]) Tryz.func96 rfl Tryz.ntmps96 rfl fun a hK => ?_
  have hM := St.start w0
  unfold d_spec_l1Has at h
  refine wp_seq ?_
  refine wp_region_lit ?_
  refine s1 hK rfl rfl rfl rfl fun a hK => ?_
  refine wpList_nil (nm_then ?_)
  refine wp_seq ?_
  refine wp_seq ?_
  refine wp_region_lit ?_
  refine s1 hK rfl rfl rfl rfl fun a hK => ?_
  refine wpList_nil (nm_then ?_)
  refine wp_block ?_
  refine c_loop (fun n a w => ∃ (i18 : Int), K 18 [(0, v2), (1, .int .i64 (x5)), (5, .int .i64 (i18))] a ∧ St [] w0 w [] ∧ d_spec_l1Has_L1 fu list1 x5 n i18 = some r) ?_ ?_ fu _ _ ?_
  · rintro a w ⟨_, _, _, h⟩
    cases (show none = some _ from h)
  · rintro m19 a w17 ⟨i18, hK, hM, h⟩
    rw [d_spec_l1Has_L1_s] at h
    unfold d_spec_l1Has_L1_B at h
    refine wp_seq ?_
    refine wp_seq ?_
    refine wp_region_lit ?_
    iterate 2 (refine s1 hK rfl rfl rfl rfl fun a hK => ?_)
    refine s_val hK rfl rfl rfl (r_len (α := Int) hp4 hK Tryz.underlying29 rfl rfl) fun a hK => ?_
    refine s1 hK rfl rfl rfl rfl fun a hK => ?_
    refine wpList_nil (nm_then ?_)
    refine c_cond (b := decide (i18 < ((list1.length : Int)))) hK rfl (fun hb20 => ?_) (fun hb20 => ?_)
    · have h := bif_t hb20 h
      refine wp_skip (nm_then ?_)
      refine wp_seq ?_
      refine wp_block ?_
      refine wp_seq ?_
      refine wp_region_lit ?_
      iterate 2 (refine s1 hK rfl rfl rfl rfl fun a hK => ?_)
      obtain ⟨x21, hx22, h⟩ := obind_some h
      refine s_val hK rfl rfl rfl (r_ixa hp4 hx22 hK ts29 rfl rfl rfl) fun a hK => ?_
      refine s_val hK rfl rfl rfl (r_lde1 hp4 (hM.a00 (Enc.rd_lt hp4)) hx22 0 t13 hK rfl rfl rfl rfl) fun a hK => ?_
      iterate 2 (refine s1 hK rfl rfl rfl rfl fun a hK => ?_)
      refine wpList_nil (nm_then ?_)
      refine c_cond (b := x21 == x5) hK rfl (fun hb23 => ?_) (fun hb23 => ?_)
      · have h := bif_t hb23 h
        refine wp_seq ?_
        refine wp_region_lit ?_
        refine s1 hK rfl rfl rfl rfl fun a hK => ?_
        refine wpList_nil (nm_then ?_)
        refine wp_ret (rt_block (rt_then (rt_then (rt_block (rt_then ?_)))))
        have h := Option.some.inj h
        subst h
        exact finR1 hK rfl (RV.tmp hK rfl) ⟨rfl, hM.ext⟩
      · have h := bif_f hb23 h
        refine wp_skip (nm_block (nm_then ?_))
        refine wp_region_lit ?_
        iterate 3 (refine s1 hK rfl rfl rfl rfl fun a hK => ?_)
        refine wpList_nil (nm_then ?_)
        exact ⟨w64 (i18 + 1), hK.keep [0, 1, 5] rfl, hM.sel [] rfl (by decide), h⟩
    · have h := bif_f hb20 h
      refine wp_exit (ex_then (ex_then (ex_same (nm_then ?_))))
      refine wp_seq ?_
      refine wp_region_lit ?_
      refine s1 hK rfl rfl rfl rfl fun a hK => ?_
      refine wpList_nil (nm_then ?_)
      refine wp_ret ?_
      have h := Option.some.inj h
      subst h
      exact finR1 hK rfl (RV.tmp hK rfl) ⟨rfl, hM.ext⟩
  · exact ⟨0, hK.keep [0, 1, 5] rfl, hM.sel [] rfl (by decide), h⟩

theorem c_spec_l3Joins (fu : Nat) {w0 : World} (pairs1 : List Pair) (group5 : List Int) (class9 : Int) {v2 : Value} {F3 : List Nat} (hp4 : rd w0 F3 [v2] pairs1) {v6 : Value} {F7 : List Nat} (hp8 : rd w0 F7 [v6] group5) {r : Bool}
    (h : d_spec_l3Joins fu pairs1 group5 class9 = some r) :
    Calls Tryz.prog 191 #[v2, v6, .int .i64 (class9)] w0 fun e w => e = .returned (.bool (r)) ∧ Ext [] w0 w := by
  refine enter (vs := [_, _, _]) Tryz.func191 rfl Tryz.ntmps191 rfl fun a hK => ?_
  have hM := St.start w0
  unfold d_spec_l3Joins at h
  refine wp_seq ?_
  refine wp_region_lit ?_
  refine s1 hK rfl rfl rfl rfl fun a hK => ?_
  refine wpList_nil (nm_then ?_)
  refine wp_seq ?_
  refine wp_seq ?_
  refine wp_region_lit ?_
  refine s1 hK rfl rfl rfl rfl fun a hK => ?_
  refine wpList_nil (nm_then ?_)
  refine wp_block ?_
  refine c_loop (fun n a w => ∃ (i74 : Int), K 32 [(0, v2), (1, v6), (2, .int .i64 (class9)), (7, .int .i64 (i74))] a ∧ St [] w0 w [] ∧ d_spec_l3Joins_L1 fu pairs1 group5 class9 n i74 = some r) ?_ ?_ fu _ _ ?_
  · rintro a w ⟨_, _, _, h⟩
    cases (show none = some _ from h)
  · rintro m75 a w73 ⟨i74, hK, hM, h⟩
    rw [d_spec_l3Joins_L1_s] at h
    unfold d_spec_l3Joins_L1_B at h
    refine wp_seq ?_
    refine wp_seq ?_
    refine wp_region_lit ?_
    iterate 2 (refine s1 hK rfl rfl rfl rfl fun a hK => ?_)
    refine s_val hK rfl rfl rfl (r_len (α := Int) hp8 hK Tryz.underlying29 rfl rfl) fun a hK => ?_
    refine s1 hK rfl rfl rfl rfl fun a hK => ?_
    refine wpList_nil (nm_then ?_)
    refine c_cond (b := decide (i74 < ((group5.length : Int)))) hK rfl (fun hb76 => ?_) (fun hb76 => ?_)
    · have h := bif_t hb76 h
      refine wp_skip (nm_then ?_)
      refine c_cut (fun a w => K 32 [(0, v2), (1, v6), (2, .int .i64 (class9)), (7, .int .i64 (i74))] a ∧ St [] w0 w [] ∧ d_spec_l3Joins_J1 fu (d_spec_l3Joins_L1 fu pairs1 group5 class9 m75) i74 = some r) ?_ ?_
      · rintro a w91 ⟨hK, hM, h⟩
        unfold d_spec_l3Joins_J1 at h
        refine wp_region_lit ?_
        iterate 3 (refine s1 hK rfl rfl rfl rfl fun a hK => ?_)
        refine wpList_nil (nm_then ?_)
        exact ⟨w64 (i74 + 1), hK.keep [0, 1, 2, 7] rfl, hM.sel [] rfl (by decide), h⟩
      · refine wp_block ?_
        refine wp_seq ?_
        refine wp_region_lit ?_
        iterate 3 (refine s1 hK rfl rfl rfl rfl fun a hK => ?_)
        obtain ⟨x92, hx93, h⟩ := obind_some h
        refine s_val hK rfl rfl rfl (r_ixa hp8 hx93 hK ts29 rfl rfl rfl) fun a hK => ?_
        refine s_val hK rfl rfl rfl (r_lde1 hp8 (hM.a00 (Enc.rd_lt hp8)) hx93 0 t13 hK rfl rfl rfl rfl) fun a hK => ?_
        refine s1 hK rfl rfl rfl rfl fun a hK => ?_
        obtain ⟨x94, hx95, h⟩ := obind_some h
        refine s_call hK Tryz.call113 rfl rfl rfl rfl rfl (c_spec_Beside fu _ _ _ (Enc.rd_agr hp4 (hM.a00 (Enc.rd_lt hp4))) hx95) fun e96 w97 hR => ?_
        obtain ⟨rfl, hE⟩ := hR
        refine ⟨_, rfl, fun a hK => ?_⟩
        have hM := hM.step hE
        iterate 2 (refine s1 hK rfl rfl rfl rfl fun a hK => ?_)
        refine bsplit (!x94) (fun hb98 => ?_) (fun hb98 => ?_)
        · have h := bif_t hb98 h
          have hK := hK.re (d := 22) rfl (congrArg Value.bool hb98)
          refine sk hK rfl rfl rfl fun a hK => ?_
          refine sk hK rfl rfl rfl fun a hK => ?_
          refine sk hK rfl rfl rfl fun a hK => ?_
          refine sk hK rfl rfl rfl fun a hK => ?_
          refine sk hK rfl rfl rfl fun a hK => ?_
          refine sk hK rfl rfl rfl fun a hK => ?_
          refine sk hK rfl rfl rfl fun a hK => ?_
          refine sk hK rfl rfl rfl fun a hK => ?_
          refine s1 hK rfl rfl rfl rfl fun a hK => ?_
          refine wpList_nil (nm_then ?_)
          refine wp_cond_true (hK.ev rfl) ?_
          refine wp_seq ?_
          refine wp_region_lit ?_
          refine s1 hK rfl rfl rfl rfl fun a hK => ?_
          refine wpList_nil (nm_then ?_)
          refine wp_ret (rt_block (rt_then (rt_then (rt_block (rt_then ?_)))))
          have h := Option.some.inj h
          subst h
          exact finR1 hK rfl (RV.tmp hK rfl) ⟨rfl, hM.ext⟩
        · have h := bif_f hb98 h
          have hK := hK.re (d := 22) rfl (congrArg Value.bool hb98)
          iterate 4 (refine s1 hK rfl rfl rfl rfl fun a hK => ?_)
          obtain ⟨x99, hx100, h⟩ := obind_some h
          refine s_val hK rfl rfl rfl (r_ixa hp8 hx93 hK ts29 rfl rfl rfl) fun a hK => ?_
          refine s_val hK rfl rfl rfl (r_lde1 hp8 (hM.a00 (Enc.rd_lt hp8)) hx93 0 t13 hK rfl rfl rfl rfl) fun a hK => ?_
          obtain ⟨x101, hx102, h⟩ := obind_some h
          refine s_call hK Tryz.call113 rfl rfl rfl rfl rfl (c_spec_Beside fu _ _ _ (Enc.rd_agr hp4 (hM.a00 (Enc.rd_lt hp4))) hx102) fun e103 w104 hR => ?_
          obtain ⟨rfl, hE⟩ := hR
          refine ⟨_, rfl, fun a hK => ?_⟩
          have hM := hM.step hE
          iterate 2 (refine s1 hK rfl rfl rfl rfl fun a hK => ?_)
          refine wpList_nil (nm_then ?_)
          refine c_cond (b := !x101) hK rfl (fun hb105 => ?_) (fun hb105 => ?_)
          · have h := bif_t hb105 h
            refine wp_seq ?_
            refine wp_region_lit ?_
            refine s1 hK rfl rfl rfl rfl fun a hK => ?_
            refine wpList_nil (nm_then ?_)
            refine wp_ret (rt_block (rt_then (rt_then (rt_block (rt_then ?_)))))
            have h := Option.some.inj h
            subst h
            exact finR1 hK rfl (RV.tmp hK rfl) ⟨rfl, hM.ext⟩
          · have h := bif_f hb105 h
            refine wp_skip (nm_block (nm_then ?_))
            exact ⟨hK.keep [0, 1, 2, 7] rfl, hM.sel [] rfl (by decide), h⟩
    · have h := bif_f hb76 h
      refine wp_exit (ex_then (ex_then (ex_same (nm_then ?_))))
      refine wp_seq ?_
      refine wp_region_lit ?_
      refine s1 hK rfl rfl rfl rfl fun a hK => ?_
      refine wpList_nil (nm_then ?_)
      refine wp_ret ?_
      have h := Option.some.inj h
      subst h
      exact finR1 hK rfl (RV.tmp hK rfl) ⟨rfl, hM.ext⟩
  · exact ⟨0, hK.keep [0, 1, 2, 7] rfl, hM.sel [] rfl (by decide), h⟩

theorem c_spec_Groups (fu : Nat) {w0 : World} (pairs1 : List Pair) (present5 : List Int) {v2 : Value} {F3 : List Nat} (hp4 : rd w0 F3 [v2] pairs1) {v6 : Value} {F7 : List Nat} (hp8 : rd w0 F7 [v6] present5) {r : (List (List Int))}
    (h : d_spec_Groups fu pairs1 present5 = some r) :
    Calls Tryz.prog 153 #[v2, v6] w0 fun e w => ∃ (v0 : Value) (G0 : List Nat), e = .returned (v0) ∧ Ext [] w0 w ∧ ow w G0 [v0] r ∧ (∀ b ∈ G0, w0.heap.size ≤ b) := by
  refine enter (vs := [_, _]) Tryz.func153 rfl Tryz.ntmps153 rfl fun a hK => ?_
  have hM := St.start w0
  unfold d_spec_Groups at h
  refine wp_seq ?_
  refine wp_region_lit ?_
  refine s1 hK rfl rfl rfl rfl fun a hK => ?_
  refine wpList_nil (nm_then ?_)
  refine wp_seq ?_
  refine wp_region_lit ?_
  refine s_bs (cs := []) (ps := []) te47 hM hK rfl rfl rfl rfl rfl rfl rfl (by decide) rfl (by exact (List.forall_mem_nil _)) fun g9 w10 e12 a hK hM hE hb11 => ?_
  have hf13 := ow_bx0 (α := List Int) hb11
  refine s1 hK rfl rfl rfl rfl fun a hK => ?_
  refine wpList_nil (nm_then ?_)
  refine wp_seq ?_
  refine wp_seq ?_
  refine wp_region_lit ?_
  refine s1 hK rfl rfl rfl rfl fun a hK => ?_
  refine wpList_nil (nm_then ?_)
  refine wp_block ?_
  refine c_loop (fun n a w => ∃ (out657 : List (List Int)) (v658 : Value) (F659 : List Nat) (u660 : World) (class662 : Int), K 51 [(0, v2), (1, v6), (5, v658), (6, .int .i64 (class662))] a ∧ St [] w0 w [(F659, u660)] ∧ ow u660 F659 [v658] out657 ∧ d_spec_Groups_L2 fu pairs1 present5 n out657 class662 = some r) ?_ ?_ fu _ _ ?_
  · rintro a w ⟨_, _, _, _, _, _, _, _, h⟩
    cases (show none = some _ from h)
  · rintro m663 a w656 ⟨out657, v658, F659, u660, class662, hK, hM, hf661, h⟩
    rw [d_spec_Groups_L2_s] at h
    unfold d_spec_Groups_L2_B at h
    refine wp_seq ?_
    refine wp_seq ?_
    refine wp_region_lit ?_
    iterate 2 (refine s1 hK rfl rfl rfl rfl fun a hK => ?_)
    refine wpList_nil (nm_then ?_)
    refine c_cond (b := decide (class662 < 4)) hK rfl (fun hb664 => ?_) (fun hb664 => ?_)
    · have h := bif_t hb664 h
      refine wp_skip (nm_then ?_)
      refine c_cut (fun a w => ∃ (out821 : List (List Int)) (v822 : Value) (F823 : List Nat) (u824 : World), K 51 [(0, v2), (1, v6), (5, v822), (6, .int .i64 (class662))] a ∧ St [] w0 w [(F823, u824)] ∧ ow u824 F823 [v822] out821 ∧ d_spec_Groups_J1 fu (d_spec_Groups_L2 fu pairs1 present5 m663) class662 out821 = some r) ?_ ?_
      · rintro a w820 ⟨out821, v822, F823, u824, hK, hM, hf825, h⟩
        unfold d_spec_Groups_J1 at h
        refine wp_region_lit ?_
        iterate 3 (refine s1 hK rfl rfl rfl rfl fun a hK => ?_)
        refine wpList_nil (nm_then ?_)
        exact ⟨out821, v822, F823, u824, w64 (class662 + 1), hK.keep [0, 1, 5, 6] rfl, hM.sel [0] rfl (by decide), hf825, h⟩
      · refine wp_block ?_
        refine wp_seq ?_
        refine wp_seq ?_
        refine wp_region_lit ?_
        iterate 2 (refine s1 hK rfl rfl rfl rfl fun a hK => ?_)
        obtain ⟨x826, hx827, h⟩ := obind_some h
        refine s_call hK Tryz.call96 rfl rfl rfl rfl rfl (c_spec_l1Has fu _ _ (Enc.rd_agr hp8 (hM.a00 (Enc.rd_lt hp8))) hx827) fun e828 w829 hR => ?_
        obtain ⟨rfl, hE⟩ := hR
        refine ⟨_, rfl, fun a hK => ?_⟩
        have hM := hM.step hE
        refine s1 hK rfl rfl rfl rfl fun a hK => ?_
        refine wpList_nil (nm_then ?_)
        refine c_cond (b := !x826) hK rfl (fun hb830 => ?_) (fun hb830 => ?_)
        · have h := bif_t hb830 h
          refine wp_exit (ex_then (ex_same (nm_then ?_)))
          exact ⟨out657, v658, F659, u660, hK.keep [0, 1, 5, 6] rfl, hM.sel [0] rfl (by decide), hf661, h⟩
        · have h := bif_f hb830 h
          refine wp_skip (nm_then ?_)
          refine wp_seq ?_
          refine wp_region_lit ?_
          refine s1 hK rfl rfl rfl rfl fun a hK => ?_
          refine wpList_nil (nm_then ?_)
          refine wp_seq ?_
          refine wp_seq ?_
          refine wp_region_lit ?_
          refine s1 hK rfl rfl rfl rfl fun a hK => ?_
          refine s_val hK rfl rfl rfl (r_len (α := List Int) (Enc.ow_rd hf661) hK Tryz.underlying47 rfl rfl) fun a hK => ?_
          iterate 2 (refine s1 hK rfl rfl rfl rfl fun a hK => ?_)
          refine wpList_nil (nm_then ?_)
          refine wp_block ?_
          refine c_loop (fun n a w => ∃ (at898 : Int) (i899 : Int), K 51 [(0, v2), (1, v6), (5, v658), (6, .int .i64 (class662)), (7, .int .i64 (at898)), (8, .int .i64 (i899))] a ∧ St [] w0 w [(F659, u660)] ∧ d_spec_Groups_L1 fu (d_spec_Groups_L2 fu pairs1 present5 m663) pairs1 out657 class662 n at898 i899 = some r) ?_ ?_ fu _ _ ?_
          · rintro a w ⟨_, _, _, _, h⟩
            cases (show none = some _ from h)
          · rintro m900 a w897 ⟨at898, i899, hK, hM, h⟩
            rw [d_spec_Groups_L1_s] at h
            unfold d_spec_Groups_L1_B at h
            refine wp_seq ?_
            refine wp_seq ?_
            refine wp_region_lit ?_
            iterate 2 (refine s1 hK rfl rfl rfl rfl fun a hK => ?_)
            refine wpList_nil (nm_then ?_)
            refine c_cond (b := decide (i899 ≥ 0)) hK rfl (fun hb901 => ?_) (fun hb901 => ?_)
            · have h := bif_t hb901 h
              refine wp_skip (nm_then ?_)
              refine c_cut (fun a w => ∃ (at917 : Int), K 51 [(0, v2), (1, v6), (5, v658), (6, .int .i64 (class662)), (7, .int .i64 (at917)), (8, .int .i64 (i899))] a ∧ St [] w0 w [(F659, u660)] ∧ d_spec_Groups_J2 fu (d_spec_Groups_L1 fu (d_spec_Groups_L2 fu pairs1 present5 m663) pairs1 out657 class662 m900) i899 at917 = some r) ?_ ?_
              · rintro a w916 ⟨at917, hK, hM, h⟩
                unfold d_spec_Groups_J2 at h
                refine wp_region_lit ?_
                iterate 3 (refine s1 hK rfl rfl rfl rfl fun a hK => ?_)
                refine wpList_nil (nm_then ?_)
                exact ⟨at917, w64 (i899 - 1), hK.keep [0, 1, 5, 6, 7, 8] rfl, hM.sel [0] rfl (by decide), h⟩
              · refine wp_block ?_
                refine wp_seq ?_
                refine wp_region_lit ?_
                iterate 3 (refine s1 hK rfl rfl rfl rfl fun a hK => ?_)
                obtain ⟨x918, hx919, h⟩ := obind_some h
                refine s_val hK rfl rfl rfl (r_ixa (Enc.ow_rd hf661) hx919 hK ts47 rfl rfl rfl) fun a hK => ?_
                obtain ⟨G920, cs921, hG922, hr923, hp924, hb925⟩ := rd_get (Enc.ow_rd hf661) (ix_some hx919).2.2
                obtain ⟨v926, rfl⟩ : ∃ v, cs921 = [v] := by obtain ⟨_, _, hq, _⟩ := hr923; exact ⟨_, hq⟩
                refine s_val hK rfl rfl rfl (r_ld1 t129 (hp924.agr (hM.a 0 rfl) hb925) hK rfl rfl) fun a hK => ?_
                refine s1 hK rfl rfl rfl rfl fun a hK => ?_
                obtain ⟨x927, hx928, h⟩ := obind_some h
                refine s_call hK Tryz.call191 rfl rfl rfl rfl rfl (c_spec_l3Joins fu _ _ _ (Enc.rd_agr hp4 (hM.a00 (Enc.rd_lt hp4))) (Enc.rd_agr hr923 ((hM.a 0 rfl).sub hG922)) hx928) fun e929 w930 hR => ?_
                obtain ⟨rfl, hE⟩ := hR
                refine ⟨_, rfl, fun a hK => ?_⟩
                have hM := hM.step hE
                refine wpList_nil (nm_then ?_)
                refine c_cond (b := x927) hK rfl (fun hb931 => ?_) (fun hb931 => ?_)
                · have h := bif_t hb931 h
                  refine wp_region_lit ?_
                  iterate 2 (refine s1 hK rfl rfl rfl rfl fun a hK => ?_)
                  refine wpList_nil (nm_block (nm_then ?_))
                  exact ⟨i899, hK.keep [0, 1, 5, 6, 7, 8] rfl, hM.sel [0] rfl (by decide), h⟩
                · have h := bif_f hb931 h
                  refine wp_skip (nm_block (nm_then ?_))
                  exact ⟨at898, hK.keep [0, 1, 5, 6, 7, 8] rfl, hM.sel [0] rfl (by decide), h⟩
            · have h := bif_f hb901 h
              refine wp_exit (ex_then (ex_then (ex_same (nm_then ?_))))
              refine wp_seq ?_
              refine wp_region_lit ?_
              iterate 2 (refine s1 hK rfl rfl rfl rfl fun a hK => ?_)
              refine wpList_nil (nm_then ?_)
              refine c_cond (b := decide (at898 < 0)) hK rfl (fun hb932 => ?_) (fun hb932 => ?_)
              · have h := bif_t hb932 h
                refine wp_region_lit ?_
                iterate 2 (refine s1 hK rfl rfl rfl rfl fun a hK => ?_)
                refine s_bs (cs := [.int .i64 (class662)]) (ps := [(0, .tmp 36)]) te29 hM hK rfl rfl rfl rfl rfl rfl rfl (by decide) rfl (by exact (List.forall_mem_cons.2 ⟨rfl, (List.forall_mem_nil _)⟩)) fun g933 w934 e936 a hK hM hE hb935 => ?_
                have hf937 := ow_bx hb935 ([class662] : List Int) rfl rfl rfl
                refine s_bs (cs := [(.slice (some ⟨g933, 0, none⟩) 1 1)]) (ps := [(0, .tmp 37)]) te47 hM hK rfl rfl rfl rfl rfl rfl rfl (by decide) rfl (by exact (List.forall_mem_cons.2 ⟨congrArg Array.size (rd_c (Enc.ow_rd hf937)), (List.forall_mem_nil _)⟩)) fun g938 w939 e941 a hK hM hE hb940 => ?_
                obtain ⟨x942, hx943, h⟩ := obind_some h
                have hy948 := Enc.ow_agr hf937 (hM.a 1 rfl)
                have hn949 := News.box hb940 (hM.a 0 rfl) (by simp) (m := 1)
                have hA950 := hM.a 2 rfl
                have hM := hM.sel [2, 1, 0] rfl (by decide)
                have hM := hM.join2
                refine s_appO (F := F659) (G := [g933]) hx943 te47 rfl hM hf661 hA950 hn949 hy948 (Agr.refl _ _) hK rfl rfl rfl rfl rfl rfl fun v944 F945 w946 a hK hE hM hf947 => ?_
                refine s1 hK rfl rfl rfl rfl fun a hK => ?_
                refine wpList_nil (nm_block (nm_then ?_))
                exact ⟨x942, v944, F945, w946, hK.keep [0, 1, 5, 6] rfl, hM.sel [0] rfl (by decide), hf947, h⟩
              · have h := bif_f hb932 h
                refine wp_region_lit ?_
                iterate 4 (refine s1 hK rfl rfl rfl rfl fun a hK => ?_)
                obtain ⟨x951, hx952, h⟩ := obind_some h
                refine s_val hK rfl rfl rfl (r_ixa (Enc.ow_rd hf661) hx952 hK ts47 rfl rfl rfl) fun a hK => ?_
                obtain ⟨G953, cs954, hG955, hr956, hp957, hb958⟩ := rd_get (Enc.ow_rd hf661) (ix_some hx952).2.2
                obtain ⟨v959, rfl⟩ : ∃ v, cs954 = [v] := by obtain ⟨_, _, hq, _⟩ := hr956; exact ⟨_, hq⟩
                refine s_val hK rfl rfl rfl (r_ld1 t129 (hp957.agr (hM.a 0 rfl) hb958) hK rfl rfl) fun a hK => ?_
                refine s1 hK rfl rfl rfl rfl fun a hK => ?_
                refine s_bs (cs := [.int .i64 (class662)]) (ps := [(0, .tmp 46)]) te29 hM hK rfl rfl rfl rfl rfl rfl rfl (by decide) rfl (by exact (List.forall_mem_cons.2 ⟨rfl, (List.forall_mem_nil _)⟩)) fun g960 w961 e963 a hK hM hE hb962 => ?_
                have hf964 := ow_bx hb962 ([class662] : List Int) rfl rfl rfl
                obtain ⟨A971, B972, hM, hH973, hO974⟩ := hM.opn 1 rfl hf661 hx952 hp957 rfl (M' := [([g960], w961)]) rfl
                obtain ⟨x965, hx966, h⟩ := obind_some h
                refine s_appF hx966 te29 rfl hM 1 hO974 (News.rd (Enc.rd_agr (Enc.ow_rd hf964) (hM.a 2 rfl))) rfl rfl hK rfl rfl rfl rfl rfl rfl rfl fun v967 F968 w969 a hK hE hM hf970 => ?_
                obtain ⟨x975, hx976, h⟩ := obind_some h
                refine s_val hK rfl rfl rfl (r_ixa (Enc.ow_rd hf661) hx952 hK ts47 rfl rfl rfl) fun a hK => ?_
                refine s_stH1 (α := List Int) (sz := 1) (cs' := [v967]) Tryz.sizeOf29 hM 0 hH973 0 hK (rd_c (Enc.ow_rd hf970)) (rd_o (Enc.ow_rd hf970)) rfl rfl rfl rfl rfl rfl rfl rfl rfl rfl fun w977 a hK hE hM hH978 => ?_
                obtain ⟨F979, hM, hf980⟩ := (hM.sel [0, 1, 2] rfl (by decide)).cls hH978 hf970
                refine wpList_nil (nm_block (nm_then ?_))
                exact ⟨setx out657 at898 x965, v658, F979, w977, hK.keep [0, 1, 5, 6] rfl, hM.sel [0] rfl (by decide), hf980, h⟩
          · exact ⟨(-1), w64 (((out657.length : Int)) - 1), hK.keep [0, 1, 5, 6, 7, 8] rfl, hM.sel [0] rfl (by decide), h⟩
    · have h := bif_f hb664 h
      refine wp_exit (ex_then (ex_then (ex_same (nm_then ?_))))
      refine wp_seq ?_
      refine wp_region_lit ?_
      iterate 2 (refine s1 hK rfl rfl rfl rfl fun a hK => ?_)
      refine wpList_nil (nm_then ?_)
      refine wp_ret ?_
      have h := Option.some.inj h
      subst h
      exact finR1 hK rfl (RV.tmp hK rfl) ⟨_, F659, rfl, hM.ext, (Enc.ow_agr hf661 (hM.a 0 rfl)), (hM.fresh 0 rfl)⟩
  · exact ⟨([] : List (List Int)), (.slice (some ⟨g9, 0, none⟩) 0 0), [g9], w10, 0, hK.keep [0, 1, 5, 6] rfl, hM.sel [0] rfl (by decide), hf13, h⟩

theorem c_spec_GroupsOf (fu : Nat) {w0 : World} (r1 : Request) {cs2 : List Value} {F3 : List Nat} (hp4 : rd w0 F3 cs2 r1) {r : (List (List Int))}
    (h : d_spec_GroupsOf fu r1 = some r) :
    Calls Tryz.prog 101 #[.agg cs2.toArray] w0 fun e w => ∃ (v0 : Value) (G0 : List Nat), e = .returned (v0) ∧ Ext [] w0 w ∧ ow w G0 [v0] r ∧ (∀ b ∈ G0, w0.heap.size ≤ b) := by
  refine enter (vs := [_]) Tryz.func101 rfl Tryz.ntmps101 rfl fun a hK => ?_
  have hM := St.start w0
  obtain ⟨v5, F6, v7, F8, v9, F10, rfl, rfl, hf11, hf12, hf13⟩ := hp4
  unfold d_spec_GroupsOf at h
  refine wp_seq ?_
  refine wp_region_lit ?_
  refine s_box (cs := [.int .i64 (r1.fWay), .int .i64 (r1.fPallet.fW), .int .i64 (r1.fPallet.fD), .int .i64 (r1.fPallet.fH), .int .i64 (r1.fPallet.fGram), .int .i64 (r1.fClasses), v5, v7, .int .i64 (r1.fMaster), v9]) hM hK rfl rfl rfl rfl rfl rfl fun b14 w16 a hK hM hE hb15 => ?_
  refine s1 hK rfl rfl rfl rfl fun a hK => ?_
  refine wpList_nil (nm_then ?_)
  refine wp_seq ?_
  refine d_go [] mixo hM rfl fun w17 hMd => ?_
  have hM := hMd
  have hS := Ext.refl ([] : List Nat) w17
  refine d_take hK 0 rfl (by kernel_rfl) (by kernel_rfl) (by kernel_rfl) rfl rfl rfl hS (fun _ _ _ h => h) (fun w hS => r_fa fa40_3 hK rfl rfl) fun a hK => ?_
  refine d_take hK 1 rfl (by kernel_rfl) (by kernel_rfl) (by kernel_rfl) rfl rfl rfl hS (fun _ _ _ h => h) (fun w hS => r_ld1 t136 (r := []) (hb15.at ((hMd.step hS).a 0 rfl) 6 1 rfl rfl rfl) hK rfl rfl) fun a hK => ?_
  refine d_take hK 2 rfl (by kernel_rfl) (by kernel_rfl) (by kernel_rfl) rfl rfl rfl hS (fun _ _ _ h => h) (fun w hS => r_ldA ta40 (hb15.at ((hMd.step hS).a 0 rfl) 0 10 rfl rfl rfl) rfl hK rfl rfl) fun a hK => ?_
  refine d_one 3 (by kernel_rfl) rfl ?_
  obtain ⟨x18, hx19, h⟩ := obind_some h
  refine s_call hK Tryz.call154 rfl rfl rfl rfl rfl (c_spec_Present fu _ (show rd _ _ [.int .i64 (r1.fWay), .int .i64 (r1.fPallet.fW), .int .i64 (r1.fPallet.fD), .int .i64 (r1.fPallet.fH), .int .i64 (r1.fPallet.fGram), .int .i64 (r1.fClasses), v5, v7, .int .i64 (r1.fMaster), v9] (r1 : Request) from ⟨_, _, _, _, _, _, rfl, rfl, (Enc.rd_agr hf11 (hM.a00 (Enc.rd_lt hf11))), (Enc.rd_agr hf12 (hM.a00 (Enc.rd_lt hf12))), (Enc.rd_agr hf13 (hM.a00 (Enc.rd_lt hf13)))⟩) hx19) fun e20 w21 hR => ?_
  obtain ⟨v26, F22, rfl, hE, hf23, hfr24⟩ := hR
  refine ⟨_, rfl, fun a hK => ?_⟩
  have hM := hM.new hE F22 (fun b hb => ⟨hfr24 b hb, Enc.rd_lt (Enc.ow_rd hf23) b hb⟩) (Enc.ow_nd hf23)
  have hlo27 := fun (y : Nat) (hy : y ∈ F22) => Nat.le_trans hS.size (hfr24 y hy)
  have hS := hS.trans hE (by simp)
  refine wpList_nil ⟨hS, ?_⟩
  refine d_one 4 (by kernel_rfl) rfl ?_
  obtain ⟨x28, hx29, h⟩ := obind_some h
  refine s_call hK Tryz.call153 rfl rfl rfl rfl rfl (c_spec_Groups fu _ _ (Enc.rd_agr hf11 (hM.a00 (Enc.rd_lt hf11))) (Enc.rd_agr (Enc.ow_rd hf23) (hM.a 0 rfl)) hx29) fun e30 w31 hR => ?_
  obtain ⟨v36, F32, rfl, hE, hf33, hfr34⟩ := hR
  refine ⟨_, rfl, fun a hK => ?_⟩
  have hM := hM.new hE F32 (fun b hb => ⟨hfr34 b hb, Enc.rd_lt (Enc.ow_rd hf33) b hb⟩) (Enc.ow_nd hf33)
  have hlo37 := fun (y : Nat) (hy : y ∈ F32) => Nat.le_trans hS.size (hfr34 y hy)
  have hS := hS.trans hE (by simp)
  refine wpList_nil ⟨hS, ?_⟩
  refine d_pure hK 5 rfl (by kernel_rfl) (by kernel_rfl) (by kernel_rfl) rfl rfl rfl hS (fun _ _ _ h => h) rfl fun a hK => ?_
  refine d_done (by kernel_rfl) ?_
  refine (nm_then ?_)
  refine wp_ret ?_
  have h := Option.some.inj h
  subst h
  exact finR1 hK rfl (RV.tmp hK rfl) ⟨_, F32, rfl, hM.ext, (Enc.ow_agr hf33 (hM.a 0 rfl)), (hM.fresh 0 rfl)⟩

theorem c_spec_l17Group (fu : Nat) {w0 : World} (r1 : Request) (kv5 : Int) {cs2 : List Value} {F3 : List Nat} (hp4 : rd w0 F3 cs2 r1) {r : Bool}
    (h : d_spec_l17Group fu r1 kv5 = some r) :
    Calls Tryz.prog 89 #[.agg cs2.toArray, .int .i64 (kv5)] w0 fun e w => e = .returned (.bool (r)) ∧ Ext [] w0 w := by
  refine enter (vs := [_, _]) Tryz.func89 rfl Tryz.ntmps89 rfl fun a hK => ?_
  have hM := St.start w0
  obtain ⟨v6, F7, v8, F9, v10, F11, rfl, rfl, hf12, hf13, hf14⟩ := hp4
  unfold d_spec_l17Group at h
  refine wp_seq ?_
  refine wp_region_lit ?_
  refine s_box (cs := [.int .i64 (r1.fWay), .int .i64 (r1.fPallet.fW), .int .i64 (r1.fPallet.fD), .int .i64 (r1.fPallet.fH), .int .i64 (r1.fPallet.fGram), .int .i64 (r1.fClasses), v6, v8, .int .i64 (r1.fMaster), v10]) hM hK rfl rfl rfl rfl rfl rfl fun b15 w17 a hK hM hE hb16 => ?_
  refine s1 hK rfl rfl rfl rfl fun a hK => ?_
  refine wpList_nil (nm_then ?_)
  refine wp_seq ?_
  refine wp_region_lit ?_
  refine s1 hK rfl rfl rfl rfl fun a hK => ?_
  refine s_val hK rfl rfl rfl (r_ldB ta40 hM 0 hb16 0 hK rfl rfl rfl rfl rfl rfl) fun a hK => ?_
  obtain ⟨x18, hx19, h⟩ := obind_some h
  refine s_call hK Tryz.call101 rfl rfl rfl rfl rfl (c_spec_GroupsOf fu _ (show rd _ _ [.int .i64 (r1.fWay), .int .i64 (r1.fPallet.fW), .int .i64 (r1.fPallet.fD), .int .i64 (r1.fPallet.fH), .int .i64 (r1.fPallet.fGram), .int .i64 (r1.fClasses), v6, v8, .int .i64 (r1.fMaster), v10] (r1 : Request) from ⟨_, _, _, _, _, _, rfl, rfl, (Enc.rd_agr hf12 (hM.a00 (Enc.rd_lt hf12))), (Enc.rd_agr hf13 (hM.a00 (Enc.rd_lt hf13))), (Enc.rd_agr hf14 (hM.a00 (Enc.rd_lt hf14)))⟩) hx19) fun e20 w21 hR => ?_
  obtain ⟨v26, F22, rfl, hE, hf23, hfr24⟩ := hR
  refine ⟨_, rfl, fun a hK => ?_⟩
  have hM := hM.new hE F22 (fun b hb => ⟨hfr24 b hb, Enc.rd_lt (Enc.ow_rd hf23) b hb⟩) (Enc.ow_nd hf23)
  refine s_val hK rfl rfl rfl (r_len (α := List Int) (Enc.ow_rd hf23) hK Tryz.underlying47 rfl rfl) fun a hK => ?_
  refine s1 hK rfl rfl rfl rfl fun a hK => ?_
  obtain ⟨x27, hx28, h⟩ := obind_some h
  refine s_call hK Tryz.call136 rfl rfl rfl rfl rfl (c_spec_l1In fu _ _ _  hx28) fun e29 w30 hR => ?_
  obtain ⟨rfl, hE⟩ := hR
  refine ⟨_, rfl, fun a hK => ?_⟩
  have hM := hM.step hE
  refine s1 hK rfl rfl rfl rfl fun a hK => ?_
  refine wpList_nil (nm_then ?_)
  refine wp_ret ?_
  have h := Option.some.inj h
  subst h
  exact finR1 hK rfl (RV.tmp hK rfl) ⟨rfl, hM.ext⟩

theorem c_spec_l6Units (fu : Nat) {w0 : World} (r1 : Request) {cs2 : List Value} {F3 : List Nat} (hp4 : rd w0 F3 cs2 r1) {r : (List Int)}
    (h : d_spec_l6Units fu r1 = some r) :
    Calls Tryz.prog 106 #[.agg cs2.toArray] w0 fun e w => ∃ (v0 : Value) (G0 : List Nat), e = .returned (v0) ∧ Ext [] w0 w ∧ ow w G0 [v0] r ∧ (∀ b ∈ G0, w0.heap.size ≤ b) := by
  refine enter (vs := [_]) Tryz.func106 rfl Tryz.ntmps106 rfl fun a hK => ?_
  have hM := St.start w0
  obtain ⟨v5, F6, v7, F8, v9, F10, rfl, rfl, hf11, hf12, hf13⟩ := hp4
  unfold d_spec_l6Units at h
  refine wp_seq ?_
  refine wp_region_lit ?_
  refine s_box (cs := [.int .i64 (r1.fWay), .int .i64 (r1.fPallet.fW), .int .i64 (r1.fPallet.fD), .int .i64 (r1.fPallet.fH), .int .i64 (r1.fPallet.fGram), .int .i64 (r1.fClasses), v5, v7, .int .i64 (r1.fMaster), v9]) hM hK rfl rfl rfl rfl rfl rfl fun b14 w16 a hK hM hE hb15 => ?_
  refine s1 hK rfl rfl rfl rfl fun a hK => ?_
  refine wpList_nil (nm_then ?_)
  refine wp_seq ?_
  refine wp_region_lit ?_
  refine s_bs (cs := []) (ps := []) te29 hM hK rfl rfl rfl rfl rfl rfl rfl (by decide) rfl (by exact (List.forall_mem_nil _)) fun g17 w18 e20 a hK hM hE hb19 => ?_
  have hf21 := ow_bx hb19 ([] : List Int) rfl rfl rfl
  refine s1 hK rfl rfl rfl rfl fun a hK => ?_
  refine wpList_nil (nm_then ?_)
  refine wp_seq ?_
  refine wp_seq ?_
  refine wp_region_lit ?_
  refine s1 hK rfl rfl rfl rfl fun a hK => ?_
  refine wpList_nil (nm_then ?_)
  refine wp_block ?_
  refine c_loop (fun n a w => ∃ (out149 : List Int) (v150 : Value) (F151 : List Nat) (u152 : World) (i154 : Int), K 29 [(1, .pointer (some (⟨b14, 0, none⟩ : Addr))), (3, v150), (4, .int .i64 (i154))] a ∧ St [] w0 w [([b14], w16), (F151, u152)] ∧ ow u152 F151 [v150] out149 ∧ d_spec_l6Units_L2 fu r1 n out149 i154 = some r) ?_ ?_ fu _ _ ?_
  · rintro a w ⟨_, _, _, _, _, _, _, _, h⟩
    cases (show none = some _ from h)
  · rintro m155 a w148 ⟨out149, v150, F151, u152, i154, hK, hM, hf153, h⟩
    rw [d_spec_l6Units_L2_s] at h
    unfold d_spec_l6Units_L2_B at h
    refine wp_seq ?_
    refine wp_seq ?_
    refine wp_region_lit ?_
    refine s1 hK rfl rfl rfl rfl fun a hK => ?_
    refine s_val hK rfl rfl rfl (r_fa fa40_6 hK rfl rfl) fun a hK => ?_
    refine s_val hK rfl rfl rfl (r_ldb t138 hM 0 hb15 9 hK rfl rfl rfl rfl rfl) fun a hK => ?_
    refine s_val hK rfl rfl rfl (r_len (α := Item) hf13 hK Tryz.underlying38 rfl rfl) fun a hK => ?_
    refine s1 hK rfl rfl rfl rfl fun a hK => ?_
    refine wpList_nil (nm_then ?_)
    refine c_cond (b := decide (i154 < ((r1.fItems.length : Int)))) hK rfl (fun hb156 => ?_) (fun hb156 => ?_)
    · have h := bif_t hb156 h
      refine wp_skip (nm_then ?_)
      refine wp_seq ?_
      refine wp_block ?_
      refine wp_seq ?_
      refine wp_region_lit ?_
      refine s1 hK rfl rfl rfl rfl fun a hK => ?_
      refine wpList_nil (nm_then ?_)
      refine wp_block ?_
      refine c_loop (fun n a w => ∃ (out194 : List Int) (v195 : Value) (F196 : List Nat) (u197 : World) (kv199 : Int), K 29 [(1, .pointer (some (⟨b14, 0, none⟩ : Addr))), (3, v195), (4, .int .i64 (i154)), (5, .int .i64 (kv199))] a ∧ St [] w0 w [([b14], w16), (F196, u197)] ∧ ow u197 F196 [v195] out194 ∧ d_spec_l6Units_L1 fu (d_spec_l6Units_L2 fu r1 m155) r1 i154 n out194 kv199 = some r) ?_ ?_ fu _ _ ?_
      · rintro a w ⟨_, _, _, _, _, _, _, _, h⟩
        cases (show none = some _ from h)
      · rintro m200 a w193 ⟨out194, v195, F196, u197, kv199, hK, hM, hf198, h⟩
        rw [d_spec_l6Units_L1_s] at h
        unfold d_spec_l6Units_L1_B at h
        refine wp_seq ?_
        refine wp_seq ?_
        refine wp_region_lit ?_
        refine s1 hK rfl rfl rfl rfl fun a hK => ?_
        refine s_val hK rfl rfl rfl (r_fa fa40_6 hK rfl rfl) fun a hK => ?_
        refine s_val hK rfl rfl rfl (r_ldb t138 hM 0 hb15 9 hK rfl rfl rfl rfl rfl) fun a hK => ?_
        refine s1 hK rfl rfl rfl rfl fun a hK => ?_
        obtain ⟨x201, hx202, h⟩ := obind_some h
        refine s_val hK rfl rfl rfl (r_ixa hf13 hx202 hK ts38 rfl rfl rfl) fun a hK => ?_
        refine s_val hK rfl rfl rfl (r_fa fa120_6 hK rfl rfl) fun a hK => ?_
        refine s_val hK rfl rfl rfl (r_lde1 hf13 (hM.a00 (Enc.rd_lt hf13)) hx202 6 t13 hK rfl rfl rfl rfl) fun a hK => ?_
        refine s1 hK rfl rfl rfl rfl fun a hK => ?_
        refine wpList_nil (nm_then ?_)
        refine c_cond (b := decide (kv199 < x201.fCount)) hK rfl (fun hb203 => ?_) (fun hb203 => ?_)
        · have h := bif_t hb203 h
          refine wp_skip (nm_then ?_)
          refine wp_seq ?_
          refine wp_block ?_
          refine wp_region_lit ?_
          iterate 2 (refine s1 hK rfl rfl rfl rfl fun a hK => ?_)
          refine s_bs (cs := [.int .i64 (i154)]) (ps := [(0, .tmp 25)]) te29 hM hK rfl rfl rfl rfl rfl rfl rfl (by decide) rfl (by exact (List.forall_mem_cons.2 ⟨rfl, (List.forall_mem_nil _)⟩)) fun g204 w205 e207 a hK hM hE hb206 => ?_
          have hf208 := ow_bx hb206 ([i154] : List Int) rfl rfl rfl
          obtain ⟨x209, hx210, h⟩ := obind_some h
          refine s_appF hx210 te29 rfl hM 2 hf198 (News.rd (Enc.rd_agr (Enc.ow_rd hf208) (hM.a 0 rfl))) rfl rfl hK rfl rfl rfl rfl rfl rfl rfl fun v211 F212 w213 a hK hE hM hf214 => ?_
          refine s1 hK rfl rfl rfl rfl fun a hK => ?_
          refine wpList_nil (nm_block (nm_then ?_))
          refine wp_region_lit ?_
          iterate 3 (refine s1 hK rfl rfl rfl rfl fun a hK => ?_)
          refine wpList_nil (nm_then ?_)
          exact ⟨x209, v211, F212, w213, w64 (kv199 + 1), hK.keep [1, 3, 4, 5] rfl, hM.sel [1, 2] rfl (by decide), hf214, h⟩
        · have h := bif_f hb203 h
          refine wp_exit (ex_then (ex_then (ex_same (nm_block (nm_then ?_)))))
          refine wp_region_lit ?_
          iterate 3 (refine s1 hK rfl rfl rfl rfl fun a hK => ?_)
          refine wpList_nil (nm_then ?_)
          exact ⟨out194, v195, F196, u197, w64 (i154 + 1), hK.keep [1, 3, 4] rfl, hM.sel [0, 1] rfl (by decide), hf198, h⟩
      · exact ⟨out149, v150, F151, u152, 0, hK.keep [1, 3, 4, 5] rfl, hM.sel [0, 1] rfl (by decide), hf153, h⟩
    · have h := bif_f hb156 h
      refine wp_exit (ex_then (ex_then (ex_same (nm_then ?_))))
      refine wp_seq ?_
      refine wp_region_lit ?_
      iterate 2 (refine s1 hK rfl rfl rfl rfl fun a hK => ?_)
      refine wpList_nil (nm_then ?_)
      refine wp_ret ?_
      have h := Option.some.inj h
      subst h
      exact finR1 hK rfl (RV.tmp hK rfl) ⟨_, F151, rfl, hM.ext, (Enc.ow_agr hf153 (hM.a 1 rfl)), (hM.fresh 1 rfl)⟩
  · exact ⟨([] : List Int), (.slice (some ⟨g17, 0, none⟩) 0 0), [g17], w18, 0, hK.keep [1, 3, 4] rfl, hM.sel [1, 0] rfl (by decide), hf21, h⟩

theorem c_spec_UnitsOf (fu : Nat) {w0 : World} (r1 : Request) (kv5 : Int) {cs2 : List Value} {F3 : List Nat} (hp4 : rd w0 F3 cs2 r1) {r : (List Int)}
    (h : d_spec_UnitsOf fu r1 kv5 = some r) :
    Calls Tryz.prog 91 #[.agg cs2.toArray, .int .i64 (kv5)] w0 fun e w => ∃ (v0 : Value) (G0 : List Nat), e = .returned (v0) ∧ Ext [] w0 w ∧ ow w G0 [v0] r ∧ (∀ b ∈ G0, w0.heap.size ≤ b) := by
  refine enter (vs := [_, _]) Tryz.func91 rfl Tryz.ntmps91 rfl fun a hK => ?_
  have hM := St.start w0
  obtain ⟨v6, F7, v8, F9, v10, F11, rfl, rfl, hf12, hf13, hf14⟩ := hp4
  unfold d_spec_UnitsOf at h
  refine wp_seq ?_
  refine wp_region_lit ?_
  refine s_box (cs := [.int .i64 (r1.fWay), .int .i64 (r1.fPallet.fW), .int .i64 (r1.fPallet.fD), .int .i64 (r1.fPallet.fH), .int .i64 (r1.fPallet.fGram), .int .i64 (r1.fClasses), v6, v8, .int .i64 (r1.fMaster), v10]) hM hK rfl rfl rfl rfl rfl rfl fun b15 w17 a hK hM hE hb16 => ?_
  refine s1 hK rfl rfl rfl rfl fun a hK => ?_
  refine wpList_nil (nm_then ?_)
  refine wp_seq ?_
  refine wp_region_lit ?_
  refine s_bs (cs := []) (ps := []) te29 hM hK rfl rfl rfl rfl rfl rfl rfl (by decide) rfl (by exact (List.forall_mem_nil _)) fun g18 w19 e21 a hK hM hE hb20 => ?_
  have hf22 := ow_bx hb20 ([] : List Int) rfl rfl rfl
  refine s1 hK rfl rfl rfl rfl fun a hK => ?_
  refine wpList_nil (nm_then ?_)
  refine wp_seq ?_
  refine wp_region_lit ?_
  refine s_val hK rfl rfl rfl (r_ldB ta40 hM 1 hb16 0 hK rfl rfl rfl rfl rfl rfl) fun a hK => ?_
  obtain ⟨x23, hx24, h⟩ := obind_some h
  refine s_call hK Tryz.call101 rfl rfl rfl rfl rfl (c_spec_GroupsOf fu _ (show rd _ _ [.int .i64 (r1.fWay), .int .i64 (r1.fPallet.fW), .int .i64 (r1.fPallet.fD), .int .i64 (r1.fPallet.fH), .int .i64 (r1.fPallet.fGram), .int .i64 (r1.fClasses), v6, v8, .int .i64 (r1.fMaster), v10] (r1 : Request) from ⟨_, _, _, _, _, _, rfl, rfl, (Enc.rd_agr hf12 (hM.a00 (Enc.rd_lt hf12))), (Enc.rd_agr hf13 (hM.a00 (Enc.rd_lt hf13))), (Enc.rd_agr hf14 (hM.a00 (Enc.rd_lt hf14)))⟩) hx24) fun e25 w26 hR => ?_
  obtain ⟨v31, F27, rfl, hE, hf28, hfr29⟩ := hR
  refine ⟨_, rfl, fun a hK => ?_⟩
  have hM := hM.new hE F27 (fun b hb => ⟨hfr29 b hb, Enc.rd_lt (Enc.ow_rd hf28) b hb⟩) (Enc.ow_nd hf28)
  refine s1 hK rfl rfl rfl rfl fun a hK => ?_
  refine wpList_nil (nm_then ?_)
  refine wp_seq ?_
  refine wp_seq ?_
  refine wp_region_lit ?_
  iterate 2 (refine s1 hK rfl rfl rfl rfl fun a hK => ?_)
  refine s_val hK rfl rfl rfl (r_len (α := List Int) (Enc.ow_rd hf28) hK Tryz.underlying47 rfl rfl) fun a hK => ?_
  refine s1 hK rfl rfl rfl rfl fun a hK => ?_
  obtain ⟨x32, hx33, h⟩ := obind_some h
  refine s_call hK Tryz.call136 rfl rfl rfl rfl rfl (c_spec_l1In fu _ _ _  hx33) fun e34 w35 hR => ?_
  obtain ⟨rfl, hE⟩ := hR
  refine ⟨_, rfl, fun a hK => ?_⟩
  have hM := hM.step hE
  refine s1 hK rfl rfl rfl rfl fun a hK => ?_
  refine wpList_nil (nm_then ?_)
  refine c_cond (b := !x32) hK rfl (fun hb36 => ?_) (fun hb36 => ?_)
  · have h := bif_t hb36 h
    refine wp_seq ?_
    refine wp_region_lit ?_
    iterate 2 (refine s1 hK rfl rfl rfl rfl fun a hK => ?_)
    refine wpList_nil (nm_then ?_)
    refine wp_ret (rt_then ?_)
    have h := Option.some.inj h
    subst h
    exact finR1 hK rfl (RV.tmp hK rfl) ⟨_, [g18], rfl, hM.ext, (Enc.ow_agr hf22 (hM.a 1 rfl)), (hM.fresh 1 rfl)⟩
  · have h := bif_f hb36 h
    refine wp_skip (nm_then ?_)
    refine wp_seq ?_
    refine wp_region_lit ?_
    refine s_val hK rfl rfl rfl (r_ldB ta40 hM 2 hb16 0 hK rfl rfl rfl rfl rfl rfl) fun a hK => ?_
    obtain ⟨x37, hx38, h⟩ := obind_some h
    refine s_call hK Tryz.call106 rfl rfl rfl rfl rfl (c_spec_l6Units fu _ (show rd _ _ [.int .i64 (r1.fWay), .int .i64 (r1.fPallet.fW), .int .i64 (r1.fPallet.fD), .int .i64 (r1.fPallet.fH), .int .i64 (r1.fPallet.fGram), .int .i64 (r1.fClasses), v6, v8, .int .i64 (r1.fMaster), v10] (r1 : Request) from ⟨_, _, _, _, _, _, rfl, rfl, (Enc.rd_agr hf12 (hM.a00 (Enc.rd_lt hf12))), (Enc.rd_agr hf13 (hM.a00 (Enc.rd_lt hf13))), (Enc.rd_agr hf14 (hM.a00 (Enc.rd_lt hf14)))⟩) hx38) fun e39 w40 hR => ?_
    obtain ⟨v45, F41, rfl, hE, hf42, hfr43⟩ := hR
    refine ⟨_, rfl, fun a hK => ?_⟩
    have hM := hM.new hE F41 (fun b hb => ⟨hfr43 b hb, Enc.rd_lt (Enc.ow_rd hf42) b hb⟩) (Enc.ow_nd hf42)
    refine s1 hK rfl rfl rfl rfl fun a hK => ?_
    refine wpList_nil (nm_then ?_)
    refine wp_seq ?_
    refine wp_seq ?_
    refine wp_region_lit ?_
    refine s1 hK rfl rfl rfl rfl fun a hK => ?_
    refine wpList_nil (nm_then ?_)
    refine wp_block ?_
    refine c_loop (fun n a w => ∃ (out189 : List Int) (v190 : Value) (F191 : List Nat) (u192 : World) (i194 : Int), K 46 [(1, .int .i64 (kv5)), (2, .pointer (some (⟨b15, 0, none⟩ : Addr))), (5, v190), (6, v31), (7, v45), (8, .int .i64 (i194))] a ∧ St [] w0 w [([b15], w17), (F27, w26), (F41, w40), (F191, u192)] ∧ ow u192 F191 [v190] out189 ∧ d_spec_UnitsOf_L1 fu r1 kv5 x23 x37 n out189 i194 = some r) ?_ ?_ fu _ _ ?_
    · rintro a w ⟨_, _, _, _, _, _, _, _, h⟩
      cases (show none = some _ from h)
    · rintro m195 a w188 ⟨out189, v190, F191, u192, i194, hK, hM, hf193, h⟩
      rw [d_spec_UnitsOf_L1_s] at h
      unfold d_spec_UnitsOf_L1_B at h
      refine wp_seq ?_
      refine wp_seq ?_
      refine wp_region_lit ?_
      iterate 2 (refine s1 hK rfl rfl rfl rfl fun a hK => ?_)
      refine s_val hK rfl rfl rfl (r_len (α := Int) (Enc.ow_rd hf42) hK Tryz.underlying29 rfl rfl) fun a hK => ?_
      refine s1 hK rfl rfl rfl rfl fun a hK => ?_
      refine wpList_nil (nm_then ?_)
      refine c_cond (b := decide (i194 < ((x37.length : Int)))) hK rfl (fun hb196 => ?_) (fun hb196 => ?_)
      · have h := bif_t hb196 h
        refine wp_skip (nm_then ?_)
        refine c_cut (fun a w => ∃ (out228 : List Int) (v229 : Value) (F230 : List Nat) (u231 : World), K 46 [(1, .int .i64 (kv5)), (2, .pointer (some (⟨b15, 0, none⟩ : Addr))), (5, v229), (6, v31), (7, v45), (8, .int .i64 (i194))] a ∧ St [] w0 w [([b15], w17), (F27, w26), (F41, w40), (F230, u231)] ∧ ow u231 F230 [v229] out228 ∧ d_spec_UnitsOf_J1 fu (d_spec_UnitsOf_L1 fu r1 kv5 x23 x37 m195) i194 out228 = some r) ?_ ?_
        · rintro a w227 ⟨out228, v229, F230, u231, hK, hM, hf232, h⟩
          unfold d_spec_UnitsOf_J1 at h
          refine wp_region_lit ?_
          iterate 3 (refine s1 hK rfl rfl rfl rfl fun a hK => ?_)
          refine wpList_nil (nm_then ?_)
          exact ⟨out228, v229, F230, u231, w64 (i194 + 1), hK.keep [1, 2, 5, 6, 7, 8] rfl, hM.sel [0, 1, 2, 3] rfl (by decide), hf232, h⟩
        · refine wp_block ?_
          refine wp_seq ?_
          refine d_go [] mixo hM rfl fun w233 hMd => ?_
          have hM := hMd
          have hS := Ext.refl ([] : List Nat) w233
          refine d_pure hK 0 rfl (by kernel_rfl) (by kernel_rfl) (by kernel_rfl) rfl rfl rfl hS (fun _ _ _ h => h) rfl fun a hK => ?_
          refine d_pure hK 1 rfl (by kernel_rfl) (by kernel_rfl) (by kernel_rfl) rfl rfl rfl hS (fun _ _ _ h => h) rfl fun a hK => ?_
          obtain ⟨x234, hx235, h⟩ := obind_some h
          refine d_take hK 2 rfl (by kernel_rfl) (by kernel_rfl) (by kernel_rfl) rfl rfl rfl hS (fun _ _ _ h => h) (fun w hS => r_ixa (Enc.ow_rd hf28) hx235 hK ts47 rfl rfl rfl) fun a hK => ?_
          obtain ⟨G236, cs237, hG238, hr239, hp240, hb241⟩ := rd_get (Enc.ow_rd hf28) (ix_some hx235).2.2
          obtain ⟨v242, rfl⟩ : ∃ v, cs237 = [v] := by obtain ⟨_, _, hq, _⟩ := hr239; exact ⟨_, hq⟩
          refine d_take hK 3 rfl (by kernel_rfl) (by kernel_rfl) (by kernel_rfl) rfl rfl rfl hS (fun _ _ _ h => h) (fun w hS => r_ld1 t129 (hp240.agr ((hMd.step hS).a 1 rfl) hb241) hK rfl rfl) fun a hK => ?_
          refine d_take hK 4 rfl (by kernel_rfl) (by kernel_rfl) (by kernel_rfl) rfl rfl rfl hS (fun _ _ _ h => h) (fun w hS => r_fa fa40_6 hK rfl rfl) fun a hK => ?_
          refine d_take hK 5 rfl (by kernel_rfl) (by kernel_rfl) (by kernel_rfl) rfl rfl rfl hS (fun _ _ _ h => h) (fun w hS => r_ld1 t138 (r := []) (hb16.at ((hMd.step hS).a 0 rfl) 9 1 rfl rfl rfl) hK rfl rfl) fun a hK => ?_
          refine d_pure hK 6 rfl (by kernel_rfl) (by kernel_rfl) (by kernel_rfl) rfl rfl rfl hS (fun _ _ _ h => h) rfl fun a hK => ?_
          refine d_pure hK 7 rfl (by kernel_rfl) (by kernel_rfl) (by kernel_rfl) rfl rfl rfl hS (fun _ _ _ h => h) rfl fun a hK => ?_
          obtain ⟨x243, hx244, h⟩ := obind_some h
          refine d_take hK 8 rfl (by kernel_rfl) (by kernel_rfl) (by kernel_rfl) rfl rfl rfl hS (fun _ _ _ h => h) (fun w hS => r_ixa (Enc.ow_rd hf42) hx244 hK ts29 rfl rfl rfl) fun a hK => ?_
          refine d_take hK 9 rfl (by kernel_rfl) (by kernel_rfl) (by kernel_rfl) rfl rfl rfl hS (fun _ _ _ h => h) (fun w hS => r_lde1 (Enc.ow_rd hf42) ((hMd.step hS).a 2 rfl) hx244 0 t13 hK rfl rfl rfl rfl) fun a hK => ?_
          obtain ⟨x245, hx246, h⟩ := obind_some h
          refine d_take hK 10 rfl (by kernel_rfl) (by kernel_rfl) (by kernel_rfl) rfl rfl rfl hS (fun _ _ _ h => h) (fun w hS => r_ixa hf14 hx246 hK ts38 rfl rfl rfl) fun a hK => ?_
          refine d_take hK 11 rfl (by kernel_rfl) (by kernel_rfl) (by kernel_rfl) rfl rfl rfl hS (fun _ _ _ h => h) (fun w hS => r_fa fa120_5 hK rfl rfl) fun a hK => ?_
          refine d_take hK 12 rfl (by kernel_rfl) (by kernel_rfl) (by kernel_rfl) rfl rfl rfl hS (fun _ _ _ h => h) (fun w hS => r_lde1 hf14 ((hMd.step hS).a00 (Enc.rd_lt hf14)) hx246 5 t13 hK rfl rfl rfl rfl) fun a hK => ?_
          refine d_one 13 (by kernel_rfl) rfl ?_
          obtain ⟨x247, hx248, h⟩ := obind_some h
          refine s_call hK Tryz.call96 rfl rfl rfl rfl rfl (c_spec_l1Has fu _ _ (Enc.rd_agr hr239 ((hM.a 1 rfl).sub hG238)) hx248) fun e249 w250 hR => ?_
          obtain ⟨rfl, hE⟩ := hR
          refine ⟨_, rfl, fun a hK => ?_⟩
          have hM := hM.step hE
          have hS := hS.trans hE (by simp)
          refine wpList_nil ⟨hS, ?_⟩
          refine d_done (by kernel_rfl) ?_
          refine (nm_then ?_)
          refine c_cond (b := x247) hK rfl (fun hb251 => ?_) (fun hb251 => ?_)
          · have h := bif_t hb251 h
            refine wp_region_lit ?_
            iterate 2 (refine s1 hK rfl rfl rfl rfl fun a hK => ?_)
            refine s_bs (cs := [.int .i64 (i194)]) (ps := [(0, .tmp 42)]) te29 hM hK rfl rfl rfl rfl rfl rfl rfl (by decide) rfl (by exact (List.forall_mem_cons.2 ⟨rfl, (List.forall_mem_nil _)⟩)) fun g252 w253 e255 a hK hM hE hb254 => ?_
            have hf256 := ow_bx hb254 ([i194] : List Int) rfl rfl rfl
            obtain ⟨x257, hx258, h⟩ := obind_some h
            refine s_appF hx258 te29 rfl hM 4 hf193 (News.rd (Enc.rd_agr (Enc.ow_rd hf256) (hM.a 0 rfl))) rfl rfl hK rfl rfl rfl rfl rfl rfl rfl fun v259 F260 w261 a hK hE hM hf262 => ?_
            refine s1 hK rfl rfl rfl rfl fun a hK => ?_
            refine wpList_nil (nm_block (nm_then ?_))
            exact ⟨x257, v259, F260, w261, hK.keep [1, 2, 5, 6, 7, 8] rfl, hM.sel [1, 2, 3, 4] rfl (by decide), hf262, h⟩
          · have h := bif_f hb251 h
            refine wp_skip (nm_block (nm_then ?_))
            exact ⟨out189, v190, F191, u192, hK.keep [1, 2, 5, 6, 7, 8] rfl, hM.sel [0, 1, 2, 3] rfl (by decide), hf193, h⟩
      · have h := bif_f hb196 h
        refine wp_exit (ex_then (ex_then (ex_same (nm_then ?_))))
        refine wp_seq ?_
        refine wp_region_lit ?_
        iterate 2 (refine s1 hK rfl rfl rfl rfl fun a hK => ?_)
        refine wpList_nil (nm_then ?_)
        refine wp_ret ?_
        have h := Option.some.inj h
        subst h
        exact finR1 hK rfl (RV.tmp hK rfl) ⟨_, F191, rfl, hM.ext, (Enc.ow_agr hf193 (hM.a 3 rfl)), (hM.fresh 3 rfl)⟩
    · exact ⟨([] : List Int), (.slice (some ⟨g18, 0, none⟩) 0 0), [g18], w19, 0, hK.keep [1, 2, 5, 6, 7, 8] rfl, hM.sel [3, 1, 0, 2] rfl (by decide), hf22, h⟩

theorem c_spec_Units (fu : Nat) {w0 : World} (r1 : Request) {cs2 : List Value} {F3 : List Nat} (hp4 : rd w0 F3 cs2 r1) {r : (List Int)}
    (h : d_spec_Units fu r1 = some r) :
    Calls Tryz.prog 83 #[.agg cs2.toArray] w0 fun e w => ∃ (v0 : Value) (G0 : List Nat), e = .returned (v0) ∧ Ext [] w0 w ∧ ow w G0 [v0] r ∧ (∀ b ∈ G0, w0.heap.size ≤ b) := by
  refine enter (vs := [_]) Tryz.func83 rfl Tryz.ntmps83 rfl fun a hK => ?_
  have hM := St.start w0
  obtain ⟨v5, F6, v7, F8, v9, F10, rfl, rfl, hf11, hf12, hf13⟩ := hp4
  unfold d_spec_Units at h
  refine wp_seq ?_
  refine wp_region_lit ?_
  refine s_box (cs := [.int .i64 (r1.fWay), .int .i64 (r1.fPallet.fW), .int .i64 (r1.fPallet.fD), .int .i64 (r1.fPallet.fH), .int .i64 (r1.fPallet.fGram), .int .i64 (r1.fClasses), v5, v7, .int .i64 (r1.fMaster), v9]) hM hK rfl rfl rfl rfl rfl rfl fun b14 w16 a hK hM hE hb15 => ?_
  refine s1 hK rfl rfl rfl rfl fun a hK => ?_
  refine wpList_nil (nm_then ?_)
  refine wp_seq ?_
  refine wp_seq ?_
  refine wp_region_lit ?_
  refine s_val hK rfl rfl rfl (r_ldB ta40 hM 0 hb15 0 hK rfl rfl rfl rfl rfl rfl) fun a hK => ?_
  obtain ⟨x17, hx18, h⟩ := obind_some h
  refine s_call hK Tryz.call68 rfl rfl rfl rfl rfl (c_spec_Class fu _ (show rd _ _ [.int .i64 (r1.fWay), .int .i64 (r1.fPallet.fW), .int .i64 (r1.fPallet.fD), .int .i64 (r1.fPallet.fH), .int .i64 (r1.fPallet.fGram), .int .i64 (r1.fClasses), v5, v7, .int .i64 (r1.fMaster), v9] (r1 : Request) from ⟨_, _, _, _, _, _, rfl, rfl, (Enc.rd_agr hf11 (hM.a00 (Enc.rd_lt hf11))), (Enc.rd_agr hf12 (hM.a00 (Enc.rd_lt hf12))), (Enc.rd_agr hf13 (hM.a00 (Enc.rd_lt hf13)))⟩) hx18) fun e19 w20 hR => ?_
  obtain ⟨rfl, hE⟩ := hR
  refine ⟨_, rfl, fun a hK => ?_⟩
  have hM := hM.step hE
  refine s1 hK rfl rfl rfl rfl fun a hK => ?_
  refine wpList_nil (nm_then ?_)
  refine c_cond (b := x17 != 0) hK rfl (fun hb21 => ?_) (fun hb21 => ?_)
  · have h := bif_t hb21 h
    refine wp_seq ?_
    refine wp_region_lit ?_
    refine s_bs (cs := []) (ps := []) te29 hM hK rfl rfl rfl rfl rfl rfl rfl (by decide) rfl (by exact (List.forall_mem_nil _)) fun g22 w23 e25 a hK hM hE hb24 => ?_
    have hf26 := ow_bx hb24 ([] : List Int) rfl rfl rfl
    refine s1 hK rfl rfl rfl rfl fun a hK => ?_
    refine wpList_nil (nm_then ?_)
    refine wp_ret (rt_then ?_)
    have h := Option.some.inj h
    subst h
    exact finR1 hK rfl (RV.tmp hK rfl) ⟨_, [g22], rfl, hM.ext, (Enc.ow_agr hf26 (hM.a 0 rfl)), (hM.fresh 0 rfl)⟩
  · have h := bif_f hb21 h
    refine wp_skip (nm_then ?_)
    refine wp_seq ?_
    refine wp_region_lit ?_
    refine s_val hK rfl rfl rfl (r_ldB ta40 hM 0 hb15 0 hK rfl rfl rfl rfl rfl rfl) fun a hK => ?_
    obtain ⟨x27, hx28, h⟩ := obind_some h
    refine s_call hK Tryz.call106 rfl rfl rfl rfl rfl (c_spec_l6Units fu _ (show rd _ _ [.int .i64 (r1.fWay), .int .i64 (r1.fPallet.fW), .int .i64 (r1.fPallet.fD), .int .i64 (r1.fPallet.fH), .int .i64 (r1.fPallet.fGram), .int .i64 (r1.fClasses), v5, v7, .int .i64 (r1.fMaster), v9] (r1 : Request) from ⟨_, _, _, _, _, _, rfl, rfl, (Enc.rd_agr hf11 (hM.a00 (Enc.rd_lt hf11))), (Enc.rd_agr hf12 (hM.a00 (Enc.rd_lt hf12))), (Enc.rd_agr hf13 (hM.a00 (Enc.rd_lt hf13)))⟩) hx28) fun e29 w30 hR => ?_
    obtain ⟨v35, F31, rfl, hE, hf32, hfr33⟩ := hR
    refine ⟨_, rfl, fun a hK => ?_⟩
    have hM := hM.new hE F31 (fun b hb => ⟨hfr33 b hb, Enc.rd_lt (Enc.ow_rd hf32) b hb⟩) (Enc.ow_nd hf32)
    refine s1 hK rfl rfl rfl rfl fun a hK => ?_
    refine wpList_nil (nm_then ?_)
    refine wp_ret ?_
    have h := Option.some.inj h
    subst h
    exact finR1 hK rfl (RV.tmp hK rfl) ⟨_, F31, rfl, hM.ext, (Enc.ow_agr hf32 (hM.a 0 rfl)), (hM.fresh 0 rfl)⟩

theorem c_spec_l6Item (fu : Nat) {w0 : World} (r1 : Request) (units5 : List Int) (u9 : Int) {cs2 : List Value} {F3 : List Nat} (hp4 : rd w0 F3 cs2 r1) {v6 : Value} {F7 : List Nat} (hp8 : rd w0 F7 [v6] units5) {r : Item × Bool}
    (h : d_spec_l6Item fu r1 units5 u9 = some r) :
    Calls Tryz.prog 102 #[.agg cs2.toArray, v6, .int .i64 (u9)] w0 fun e w => e = .returned (.tuple #[.agg (Flat.e r.1).toArray, .bool (r.2)]) ∧ Ext [] w0 w := by
  refine enter (vs := [_, _, _]) Tryz.func102 rfl Tryz.ntmps102 rfl fun a hK => ?_
  have hM := St.start w0
  obtain ⟨v10, F11, v12, F13, v14, F15, rfl, rfl, hf16, hf17, hf18⟩ := hp4
  unfold d_spec_l6Item at h
  refine wp_seq ?_
  refine wp_region_lit ?_
  refine s_box (cs := [.int .i64 (r1.fWay), .int .i64 (r1.fPallet.fW), .int .i64 (r1.fPallet.fD), .int .i64 (r1.fPallet.fH), .int .i64 (r1.fPallet.fGram), .int .i64 (r1.fClasses), v10, v12, .int .i64 (r1.fMaster), v14]) hM hK rfl rfl rfl rfl rfl rfl fun b19 w21 a hK hM hE hb20 => ?_
  refine s_alloc (cs := [.int .i64 (0), .int .i64 (0), .int .i64 (0), .int .i64 (0), .int .i64 (0), .int .i64 (0), .int .i64 (0)]) hM hK Tryz.zeroValue120 rfl rfl rfl rfl rfl fun b22 w24 a hK hM hE hb23 => ?_
  refine s1 hK rfl rfl rfl rfl fun a hK => ?_
  refine wpList_nil (nm_then ?_)
  refine wp_seq ?_
  refine wp_seq ?_
  refine wp_region_lit ?_
  iterate 2 (refine s1 hK rfl rfl rfl rfl fun a hK => ?_)
  refine s_val hK rfl rfl rfl (r_len (α := Int) hp8 hK Tryz.underlying29 rfl rfl) fun a hK => ?_
  refine s1 hK rfl rfl rfl rfl fun a hK => ?_
  obtain ⟨x25, hx26, h⟩ := obind_some h
  refine s_call hK Tryz.call136 rfl rfl rfl rfl rfl (c_spec_l1In fu _ _ _  hx26) fun e27 w28 hR => ?_
  obtain ⟨rfl, hE⟩ := hR
  refine ⟨_, rfl, fun a hK => ?_⟩
  have hM := hM.step hE
  refine s1 hK rfl rfl rfl rfl fun a hK => ?_
  refine wpList_nil (nm_then ?_)
  refine c_cond (b := !x25) hK rfl (fun hb29 => ?_) (fun hb29 => ?_)
  · have h := bif_t hb29 h
    refine wp_seq ?_
    refine wp_region_lit ?_
    refine s_val hK rfl rfl rfl (r_build bt120 hK (ps := []) rfl rfl rfl) fun a hK => ?_
    refine s_stb (cs' := [.int .i64 (0), .int .i64 (0), .int .i64 (0), .int .i64 (0), .int .i64 (0), .int .i64 (0), .int .i64 (0)]) Tryz.sizeOf120 hM 0 hb23 0 hK rfl rfl rfl rfl rfl rfl rfl rfl rfl rfl rfl fun w30 a hK hE hM hb31 => ?_
    refine s1 hK rfl rfl rfl rfl fun a hK => ?_
    refine wpList_nil (nm_then ?_)
    refine wp_ret (rt_then ?_)
    have h := Option.some.inj h
    subst h
    exact finR2 hK rfl (RV.cA hK rfl ta120 (hb31.at (hM.a 0 rfl) 0 7 rfl rfl rfl) rfl) (RV.tmp hK rfl) ⟨rfl, hM.ext⟩
  · have h := bif_f hb29 h
    refine wp_skip (nm_then ?_)
    refine wp_seq ?_
    refine d_go ([b22]) mixo hM rfl fun w32 hMd => ?_
    have hM := hMd
    have hS := Ext.refl (([b22]) : List Nat) w32
    refine d_take hK 0 rfl (by kernel_rfl) (by kernel_rfl) (by kernel_rfl) rfl rfl rfl hS (fun _ _ _ h => h) (fun w hS => r_fa fa40_6 hK rfl rfl) fun a hK => ?_
    refine d_take hK 1 rfl (by kernel_rfl) (by kernel_rfl) (by kernel_rfl) rfl rfl rfl hS (fun _ _ _ h => h) (fun w hS => r_ld1 t138 (r := []) (hb20.at (hMd.az 1 0 rfl rfl rfl hS) 9 1 rfl rfl rfl) hK rfl rfl) fun a hK => ?_
    refine d_pure hK 2 rfl (by kernel_rfl) (by kernel_rfl) (by kernel_rfl) rfl rfl rfl hS (fun _ _ _ h => h) rfl fun a hK => ?_
    refine d_pure hK 3 rfl (by kernel_rfl) (by kernel_rfl) (by kernel_rfl) rfl rfl rfl hS (fun _ _ _ h => h) rfl fun a hK => ?_
    obtain ⟨x33, hx34, h⟩ := obind_some h
    refine d_take hK 4 rfl (by kernel_rfl) (by kernel_rfl) (by kernel_rfl) rfl rfl rfl hS (fun _ _ _ h => h) (fun w hS => r_ixa hp8 hx34 hK ts29 rfl rfl rfl) fun a hK => ?_
    refine d_take hK 5 rfl (by kernel_rfl) (by kernel_rfl) (by kernel_rfl) rfl rfl rfl hS (fun _ _ _ h => h) (fun w hS => r_lde1 hp8 (hMd.az0 0 rfl rfl (Enc.rd_lt hp8) hS) hx34 0 t13 hK rfl rfl rfl rfl) fun a hK => ?_
    obtain ⟨x35, hx36, h⟩ := obind_some h
    refine d_take hK 6 rfl (by kernel_rfl) (by kernel_rfl) (by kernel_rfl) rfl rfl rfl hS (fun _ _ _ h => h) (fun w hS => r_ixa hf18 hx36 hK ts38 rfl rfl rfl) fun a hK => ?_
    refine d_take hK 7 rfl (by kernel_rfl) (by kernel_rfl) (by kernel_rfl) rfl rfl rfl hS (fun _ _ _ h => h) (fun w hS => r_lde hf18 (hMd.az0 0 rfl rfl (Enc.rd_lt hf18) hS) hx36 ta120 hK rfl rfl) fun a hK => ?_
    refine d_one 8 (by kernel_rfl) rfl ?_
    refine s_stb (cs' := [.int .i64 (x35.fId), .int .i64 (x35.fW), .int .i64 (x35.fH), .int .i64 (x35.fD), .int .i64 (x35.fGram), .int .i64 (x35.fClass), .int .i64 (x35.fCount)]) Tryz.sizeOf120 hM 0 hb23 0 hK rfl rfl rfl rfl rfl rfl rfl rfl rfl rfl rfl fun w37 a hK hE hM hb38 => ?_
    have hS := hS.trans hE (fun y hy => Or.inl hy)
    refine wpList_nil ⟨hS, ?_⟩
    refine d_pure hK 9 rfl (by kernel_rfl) (by kernel_rfl) (by kernel_rfl) rfl rfl rfl hS (fun _ _ _ h => h) rfl fun a hK => ?_
    refine d_done (by kernel_rfl) ?_
    refine (nm_then ?_)
    refine wp_ret ?_
    have h := Option.some.inj h
    subst h
    exact finR2 hK rfl (RV.cA hK rfl ta120 (hb38.at (hM.a 0 rfl) 0 7 rfl rfl rfl) rfl) (RV.tmp hK rfl) ⟨rfl, hM.ext⟩

theorem c_spec_GramOf (fu : Nat) {w0 : World} (r1 : Request) (units5 : List Int) {cs2 : List Value} {F3 : List Nat} (hp4 : rd w0 F3 cs2 r1) {v6 : Value} {F7 : List Nat} (hp8 : rd w0 F7 [v6] units5) {r : Int}
    (h : d_spec_GramOf fu r1 units5 = some r) :
    Calls Tryz.prog 90 #[.agg cs2.toArray, v6] w0 fun e w => e = .returned (.int .i64 (r)) ∧ Ext [] w0 w := by
  refine enter (vs := [_, _]) Tryz.func90 rfl Tryz.ntmps90 rfl fun a hK => ?_
  have hM := St.start w0
  obtain ⟨v9, F10, v11, F12, v13, F14, rfl, rfl, hf15, hf16, hf17⟩ := hp4
  unfold d_spec_GramOf at h
  refine wp_seq ?_
  refine wp_region_lit ?_
  refine s_box (cs := [.int .i64 (r1.fWay), .int .i64 (r1.fPallet.fW), .int .i64 (r1.fPallet.fD), .int .i64 (r1.fPallet.fH), .int .i64 (r1.fPallet.fGram), .int .i64 (r1.fClasses), v9, v11, .int .i64 (r1.fMaster), v13]) hM hK rfl rfl rfl rfl rfl rfl fun b18 w20 a hK hM hE hb19 => ?_
  refine s1 hK rfl rfl rfl rfl fun a hK => ?_
  refine wpList_nil (nm_then ?_)
  refine wp_seq ?_
  refine wp_region_lit ?_
  refine s_val hK rfl rfl rfl (r_ldB ta40 hM 0 hb19 0 hK rfl rfl rfl rfl rfl rfl) fun a hK => ?_
  obtain ⟨x21, hx22, h⟩ := obind_some h
  refine s_call hK Tryz.call83 rfl rfl rfl rfl rfl (c_spec_Units fu _ (show rd _ _ [.int .i64 (r1.fWay), .int .i64 (r1.fPallet.fW), .int .i64 (r1.fPallet.fD), .int .i64 (r1.fPallet.fH), .int .i64 (r1.fPallet.fGram), .int .i64 (r1.fClasses), v9, v11, .int .i64 (r1.fMaster), v13] (r1 : Request) from ⟨_, _, _, _, _, _, rfl, rfl, (Enc.rd_agr hf15 (hM.a00 (Enc.rd_lt hf15))), (Enc.rd_agr hf16 (hM.a00 (Enc.rd_lt hf16))), (Enc.rd_agr hf17 (hM.a00 (Enc.rd_lt hf17)))⟩) hx22) fun e23 w24 hR => ?_
  obtain ⟨v29, F25, rfl, hE, hf26, hfr27⟩ := hR
  refine ⟨_, rfl, fun a hK => ?_⟩
  have hM := hM.new hE F25 (fun b hb => ⟨hfr27 b hb, Enc.rd_lt (Enc.ow_rd hf26) b hb⟩) (Enc.ow_nd hf26)
  refine s1 hK rfl rfl rfl rfl fun a hK => ?_
  refine wpList_nil (nm_then ?_)
  refine wp_seq ?_
  refine wp_region_lit ?_
  refine s1 hK rfl rfl rfl rfl fun a hK => ?_
  refine wpList_nil (nm_then ?_)
  refine wp_seq ?_
  refine wp_seq ?_
  refine wp_region_lit ?_
  refine s1 hK rfl rfl rfl rfl fun a hK => ?_
  refine wpList_nil (nm_then ?_)
  refine wp_block ?_
  refine c_loop (fun n a w => ∃ (n261 : Int) (i262 : Int), K 33 [(1, v6), (2, .pointer (some (⟨b18, 0, none⟩ : Addr))), (5, v29), (6, .int .i64 (n261)), (7, .int .i64 (i262))] a ∧ St [] w0 w [([b18], w20), (F25, w24)] ∧ d_spec_GramOf_L1 fu r1 units5 x21 n n261 i262 = some r) ?_ ?_ fu _ _ ?_
  · rintro a w ⟨_, _, _, _, h⟩
    cases (show none = some _ from h)
  · rintro m263 a w260 ⟨n261, i262, hK, hM, h⟩
    rw [d_spec_GramOf_L1_s] at h
    unfold d_spec_GramOf_L1_B at h
    refine wp_seq ?_
    refine wp_seq ?_
    refine wp_region_lit ?_
    iterate 2 (refine s1 hK rfl rfl rfl rfl fun a hK => ?_)
    refine s_val hK rfl rfl rfl (r_len (α := Int) hp8 hK Tryz.underlying29 rfl rfl) fun a hK => ?_
    refine s1 hK rfl rfl rfl rfl fun a hK => ?_
    refine wpList_nil (nm_then ?_)
    refine c_cond (b := decide (i262 < ((units5.length : Int)))) hK rfl (fun hb264 => ?_) (fun hb264 => ?_)
    · have h := bif_t hb264 h
      refine wp_skip (nm_then ?_)
      refine c_cut (fun a w => ∃ (n321 : Int), K 33 [(1, v6), (2, .pointer (some (⟨b18, 0, none⟩ : Addr))), (5, v29), (6, .int .i64 (n321)), (7, .int .i64 (i262))] a ∧ St [] w0 w [([b18], w20), (F25, w24)] ∧ d_spec_GramOf_J1 fu (d_spec_GramOf_L1 fu r1 units5 x21 m263) i262 n321 = some r) ?_ ?_
      · rintro a w320 ⟨n321, hK, hM, h⟩
        unfold d_spec_GramOf_J1 at h
        refine wp_region_lit ?_
        iterate 3 (refine s1 hK rfl rfl rfl rfl fun a hK => ?_)
        refine wpList_nil (nm_then ?_)
        exact ⟨n321, w64 (i262 + 1), hK.keep [1, 2, 5, 6, 7] rfl, hM.sel [0, 1] rfl (by decide), h⟩
      · refine wp_block ?_
        refine c_cut (fun a w => ∃ (i351 : Item) (b348 : Nat) (u349 : World), K 33 [(1, v6), (2, .pointer (some (⟨b18, 0, none⟩ : Addr))), (5, v29), (6, .int .i64 (n261)), (7, .int .i64 (i262)), (8, .pointer (some (⟨b348, 0, none⟩ : Addr)))] a ∧ St [] w0 w [([b18], w20), (F25, w24), ([b348], u349)] ∧ bx u349 b348 [.int .i64 (i351.fId), .int .i64 (i351.fW), .int .i64 (i351.fH), .int .i64 (i351.fD), .int .i64 (i351.fGram), .int .i64 (i351.fClass), .int .i64 (i351.fCount)] 120 ∧ d_spec_GramOf_J2 fu (d_spec_GramOf_L1 fu r1 units5 x21 m263) n261 i262 i351 = some r) ?_ ?_
        · rintro a w347 ⟨i351, b348, u349, hK, hM, hb350, h⟩
          unfold d_spec_GramOf_J2 at h
          refine wp_region_lit ?_
          refine s1 hK rfl rfl rfl rfl fun a hK => ?_
          refine s_val hK rfl rfl rfl (r_fa fa120_4 hK rfl rfl) fun a hK => ?_
          refine s_val hK rfl rfl rfl (r_ldb t13 hM 2 hb350 4 hK rfl rfl rfl rfl rfl) fun a hK => ?_
          iterate 2 (refine s1 hK rfl rfl rfl rfl fun a hK => ?_)
          refine wpList_nil (nm_block (nm_then ?_))
          exact ⟨w64 (n261 + i351.fGram), hK.keep [1, 2, 5, 6, 7] rfl, hM.sel [0, 1] rfl (by decide), h⟩
        · refine d_go [] mixo hM rfl fun w352 hMd => ?_
          have hM := hMd
          have hS := Ext.refl ([] : List Nat) w352
          refine d_take hK 0 rfl (by kernel_rfl) (by kernel_rfl) (by kernel_rfl) rfl rfl rfl hS (fun _ _ _ h => h) (fun w hS => r_ldA ta40 (hb19.at ((hMd.step hS).a 0 rfl) 0 10 rfl rfl rfl) rfl hK rfl rfl) fun a hK => ?_
          refine d_pure hK 1 rfl (by kernel_rfl) (by kernel_rfl) (by kernel_rfl) rfl rfl rfl hS (fun _ _ _ h => h) rfl fun a hK => ?_
          refine d_pure hK 2 rfl (by kernel_rfl) (by kernel_rfl) (by kernel_rfl) rfl rfl rfl hS (fun _ _ _ h => h) rfl fun a hK => ?_
          refine d_pure hK 3 rfl (by kernel_rfl) (by kernel_rfl) (by kernel_rfl) rfl rfl rfl hS (fun _ _ _ h => h) rfl fun a hK => ?_
          obtain ⟨x353, hx354, h⟩ := obind_some h
          refine d_take hK 4 rfl (by kernel_rfl) (by kernel_rfl) (by kernel_rfl) rfl rfl rfl hS (fun _ _ _ h => h) (fun w hS => r_ixa hp8 hx354 hK ts29 rfl rfl rfl) fun a hK => ?_
          refine d_take hK 5 rfl (by kernel_rfl) (by kernel_rfl) (by kernel_rfl) rfl rfl rfl hS (fun _ _ _ h => h) (fun w hS => r_lde1 hp8 ((hMd.step hS).a00 (Enc.rd_lt hp8)) hx354 0 t13 hK rfl rfl rfl rfl) fun a hK => ?_
          refine d_two 6 10 (by kernel_rfl) rfl rfl ?_ ?_ 
          · obtain ⟨x355, hx356, h⟩ := obind_some h
            refine s_call hK Tryz.call102 rfl rfl rfl rfl rfl (c_spec_l6Item fu _ _ _ (show rd _ _ [.int .i64 (r1.fWay), .int .i64 (r1.fPallet.fW), .int .i64 (r1.fPallet.fD), .int .i64 (r1.fPallet.fH), .int .i64 (r1.fPallet.fGram), .int .i64 (r1.fClasses), v9, v11, .int .i64 (r1.fMaster), v13] (r1 : Request) from ⟨_, _, _, _, _, _, rfl, rfl, (Enc.rd_agr hf15 (hM.a00 (Enc.rd_lt hf15))), (Enc.rd_agr hf16 (hM.a00 (Enc.rd_lt hf16))), (Enc.rd_agr hf17 (hM.a00 (Enc.rd_lt hf17)))⟩) (Enc.rd_agr (Enc.ow_rd hf26) (hM.a 1 rfl)) hx356) fun e357 w358 hR => ?_
            obtain ⟨rfl, hE⟩ := hR
            refine ⟨_, rfl, fun a hK => ?_⟩
            have hM := hM.step hE
            have hS := hS.trans hE (by simp)
            refine wpList_nil ⟨hS, ?_⟩
            refine d_pure hK 7 rfl (by kernel_rfl) (by kernel_rfl) (by kernel_rfl) rfl rfl rfl hS (fun _ _ _ h => h) rfl fun a hK => ?_
            refine d_pure hK 8 rfl (by kernel_rfl) (by kernel_rfl) (by kernel_rfl) rfl rfl rfl hS (fun _ _ _ h => h) rfl fun a hK => ?_
            refine d_pure hK 9 rfl (by kernel_rfl) (by kernel_rfl) (by kernel_rfl) rfl rfl rfl hS (fun _ _ _ h => h) rfl fun a hK => ?_
            refine d_one 10 (by kernel_rfl) rfl ?_
            refine s_allocN (cs := [.int .i64 (0), .int .i64 (0), .int .i64 (0), .int .i64 (0), .int .i64 (0), .int .i64 (0), .int .i64 (0)]) hM hK Tryz.zeroValue120 rfl rfl rfl rfl rfl fun b359 w361 a hK hM hE hb360 hbn362 => ?_
            have hlo363 := lo1 (Nat.le_trans hS.size hbn362)
            have hS := hS.trans hE (by simp)
            refine wpList_nil ⟨hS, ?_⟩
            refine d_one 11 (by kernel_rfl) rfl ?_
            refine s_stb (cs' := [.int .i64 (x355.1.fId), .int .i64 (x355.1.fW), .int .i64 (x355.1.fH), .int .i64 (x355.1.fD), .int .i64 (x355.1.fGram), .int .i64 (x355.1.fClass), .int .i64 (x355.1.fCount)]) Tryz.sizeOf120 hM 0 hb360 0 hK rfl rfl rfl rfl rfl rfl rfl rfl rfl rfl rfl fun w364 a hK hE hM hb365 => ?_
            have hS := hS.trans hE (fun y hy => Or.inr (hlo363 y hy))
            refine wpList_nil ⟨hS, ?_⟩
            refine d_pure hK 12 rfl (by kernel_rfl) (by kernel_rfl) (by kernel_rfl) rfl rfl rfl hS (fun _ _ _ h => h) rfl fun a hK => ?_
            refine d_done (by kernel_rfl) ?_
            refine (nm_then ?_)
            exact ⟨x355.1, b359, w364, hK.keep [1, 2, 5, 6, 7, 8] rfl, hM.sel [1, 2, 0] rfl (by decide), hb365, h⟩
          · refine s_allocN (cs := [.int .i64 (0), .int .i64 (0), .int .i64 (0), .int .i64 (0), .int .i64 (0), .int .i64 (0), .int .i64 (0)]) hM hK Tryz.zeroValue120 rfl rfl rfl rfl rfl fun b366 w368 a hK hM hE hb367 hbn369 => ?_
            have hlo370 := lo1 (Nat.le_trans hS.size hbn369)
            have hS := hS.trans hE (by simp)
            refine wpList_nil ⟨hS, ?_⟩
            refine d_one 6 (by kernel_rfl) rfl ?_
            obtain ⟨x371, hx372, h⟩ := obind_some h
            refine s_call hK Tryz.call102 rfl rfl rfl rfl rfl (c_spec_l6Item fu _ _ _ (show rd _ _ [.int .i64 (r1.fWay), .int .i64 (r1.fPallet.fW), .int .i64 (r1.fPallet.fD), .int .i64 (r1.fPallet.fH), .int .i64 (r1.fPallet.fGram), .int .i64 (r1.fClasses), v9, v11, .int .i64 (r1.fMaster), v13] (r1 : Request) from ⟨_, _, _, _, _, _, rfl, rfl, (Enc.rd_agr hf15 (hM.a00 (Enc.rd_lt hf15))), (Enc.rd_agr hf16 (hM.a00 (Enc.rd_lt hf16))), (Enc.rd_agr hf17 (hM.a00 (Enc.rd_lt hf17)))⟩) (Enc.rd_agr (Enc.ow_rd hf26) (hM.a 2 rfl)) hx372) fun e373 w374 hR => ?_
            obtain ⟨rfl, hE⟩ := hR
            refine ⟨_, rfl, fun a hK => ?_⟩
            have hM := hM.step hE
            have hS := hS.trans hE (by simp)
            refine wpList_nil ⟨hS, ?_⟩
            refine d_pure hK 7 rfl (by kernel_rfl) (by kernel_rfl) (by kernel_rfl) rfl rfl rfl hS (fun _ _ _ h => h) rfl fun a hK => ?_
            refine d_pure hK 8 rfl (by kernel_rfl) (by kernel_rfl) (by kernel_rfl) rfl rfl rfl hS (fun _ _ _ h => h) rfl fun a hK => ?_
            refine d_pure hK 9 rfl (by kernel_rfl) (by kernel_rfl) (by kernel_rfl) rfl rfl rfl hS (fun _ _ _ h => h) rfl fun a hK => ?_
            refine d_one 11 (by kernel_rfl) rfl ?_
            refine s_stb (cs' := [.int .i64 (x371.1.fId), .int .i64 (x371.1.fW), .int .i64 (x371.1.fH), .int .i64 (x371.1.fD), .int .i64 (x371.1.fGram), .int .i64 (x371.1.fClass), .int .i64 (x371.1.fCount)]) Tryz.sizeOf120 hM 0 hb367 0 hK rfl rfl rfl rfl rfl rfl rfl rfl rfl rfl rfl fun w375 a hK hE hM hb376 => ?_
            have hS := hS.trans hE (fun y hy => Or.inr (hlo370 y hy))
            refine wpList_nil ⟨hS, ?_⟩
            refine d_pure hK 12 rfl (by kernel_rfl) (by kernel_rfl) (by kernel_rfl) rfl rfl rfl hS (fun _ _ _ h => h) rfl fun a hK => ?_
            refine d_done (by kernel_rfl) ?_
            refine (nm_then ?_)
            exact ⟨x371.1, b366, w375, hK.keep [1, 2, 5, 6, 7, 8] rfl, hM.sel [1, 2, 0] rfl (by decide), hb376, h⟩
    · have h := bif_f hb264 h
      refine wp_exit (ex_then (ex_then (ex_same (nm_then ?_))))
      refine wp_seq ?_
      refine wp_region_lit ?_
      iterate 2 (refine s1 hK rfl rfl rfl rfl fun a hK => ?_)
      refine wpList_nil (nm_then ?_)
      refine wp_ret ?_
      have h := Option.some.inj h
      subst h
      exact finR1 hK rfl (RV.tmp hK rfl) ⟨rfl, hM.ext⟩
  · exact ⟨0, 0, hK.keep [1, 2, 5, 6, 7] rfl, hM.sel [1, 0] rfl (by decide), h⟩

theorem c_spec_SlackGram (fu : Nat) {w0 : World} (r1 : Request) (kv5 : Int) {cs2 : List Value} {F3 : List Nat} (hp4 : rd w0 F3 cs2 r1) {r : Bool}
    (h : d_spec_SlackGram fu r1 kv5 = some r) :
    Calls Tryz.prog 29 #[.agg cs2.toArray, .int .i64 (kv5)] w0 fun e w => e = .returned (.bool (r)) ∧ Ext [] w0 w := by
  refine enter (vs := [_, _]) Tryz.func29 rfl Tryz.ntmps29 rfl fun a hK => ?_
  have hM := St.start w0
  obtain ⟨v6, F7, v8, F9, v10, F11, rfl, rfl, hf12, hf13, hf14⟩ := hp4
  unfold d_spec_SlackGram at h
  refine wp_seq ?_
  refine wp_region_lit ?_
  refine s_box (cs := [.int .i64 (r1.fWay), .int .i64 (r1.fPallet.fW), .int .i64 (r1.fPallet.fD), .int .i64 (r1.fPallet.fH), .int .i64 (r1.fPallet.fGram), .int .i64 (r1.fClasses), v6, v8, .int .i64 (r1.fMaster), v10]) hM hK rfl rfl rfl rfl rfl rfl fun b15 w17 a hK hM hE hb16 => ?_
  refine s1 hK rfl rfl rfl rfl fun a hK => ?_
  refine wpList_nil (nm_then ?_)
  refine wp_seq ?_
  refine wp_region_lit ?_
  refine s_val hK rfl rfl rfl (r_ldB ta40 hM 0 hb16 0 hK rfl rfl rfl rfl rfl rfl) fun a hK => ?_
  obtain ⟨x18, hx19, h⟩ := obind_some h
  refine s_call hK Tryz.call88 rfl rfl rfl rfl rfl (c_spec_MasterOf fu _ (show rd _ _ [.int .i64 (r1.fWay), .int .i64 (r1.fPallet.fW), .int .i64 (r1.fPallet.fD), .int .i64 (r1.fPallet.fH), .int .i64 (r1.fPallet.fGram), .int .i64 (r1.fClasses), v6, v8, .int .i64 (r1.fMaster), v10] (r1 : Request) from ⟨_, _, _, _, _, _, rfl, rfl, (Enc.rd_agr hf12 (hM.a00 (Enc.rd_lt hf12))), (Enc.rd_agr hf13 (hM.a00 (Enc.rd_lt hf13))), (Enc.rd_agr hf14 (hM.a00 (Enc.rd_lt hf14)))⟩) hx19) fun e20 w21 hR => ?_
  obtain ⟨rfl, hE⟩ := hR
  refine ⟨_, rfl, fun a hK => ?_⟩
  have hM := hM.step hE
  iterate 3 (refine s1 hK rfl rfl rfl rfl fun a hK => ?_)
  refine s_alloc (cs := [.int .i64 (0), .int .i64 (0), .int .i64 (0), .int .i64 (0), .int .i64 (0), .int .i64 (0), .int .i64 (0)]) hM hK Tryz.zeroValue92 rfl rfl rfl rfl rfl fun b22 w24 a hK hM hE hb23 => ?_
  refine s_stb (cs' := [.int .i64 (x18.1.fId), .int .i64 (x18.1.fW), .int .i64 (x18.1.fH), .int .i64 (x18.1.fD), .int .i64 (x18.1.fTare), .int .i64 (x18.1.fGram), .int .i64 (x18.1.fCost)]) Tryz.sizeOf92 hM 0 hb23 0 hK rfl rfl rfl rfl rfl rfl rfl rfl rfl rfl rfl fun w25 a hK hE hM hb26 => ?_
  refine s1 hK rfl rfl rfl rfl fun a hK => ?_
  refine wpList_nil (nm_then ?_)
  refine wp_seq ?_
  refine d_go [] mixo hM rfl fun w27 hMd => ?_
  have hM := hMd
  have hS := Ext.refl ([] : List Nat) w27
  refine d_take hK 0 rfl (by kernel_rfl) (by kernel_rfl) (by kernel_rfl) rfl rfl rfl hS (fun _ _ _ h => h) (fun w hS => r_ldA ta40 (hb16.at ((hMd.step hS).a 1 rfl) 0 10 rfl rfl rfl) rfl hK rfl rfl) fun a hK => ?_
  refine d_pure hK 1 rfl (by kernel_rfl) (by kernel_rfl) (by kernel_rfl) rfl rfl rfl hS (fun _ _ _ h => h) rfl fun a hK => ?_
  refine d_one 2 (by kernel_rfl) rfl ?_
  obtain ⟨x28, hx29, h⟩ := obind_some h
  refine s_call hK Tryz.call89 rfl rfl rfl rfl rfl (c_spec_l17Group fu _ _ (show rd _ _ [.int .i64 (r1.fWay), .int .i64 (r1.fPallet.fW), .int .i64 (r1.fPallet.fD), .int .i64 (r1.fPallet.fH), .int .i64 (r1.fPallet.fGram), .int .i64 (r1.fClasses), v6, v8, .int .i64 (r1.fMaster), v10] (r1 : Request) from ⟨_, _, _, _, _, _, rfl, rfl, (Enc.rd_agr hf12 (hM.a00 (Enc.rd_lt hf12))), (Enc.rd_agr hf13 (hM.a00 (Enc.rd_lt hf13))), (Enc.rd_agr hf14 (hM.a00 (Enc.rd_lt hf14)))⟩) hx29) fun e30 w31 hR => ?_
  obtain ⟨rfl, hE⟩ := hR
  refine ⟨_, rfl, fun a hK => ?_⟩
  have hM := hM.step hE
  have hS := hS.trans hE (by simp)
  refine wpList_nil ⟨hS, ?_⟩
  refine d_pure hK 3 rfl (by kernel_rfl) (by kernel_rfl) (by kernel_rfl) rfl rfl rfl hS (fun _ _ _ h => h) rfl fun a hK => ?_
  refine bsplit (x28) (fun hb32 => ?_) (fun hb32 => ?_)
  · have h := bif_t hb32 h
    have hK := hK.re (d := 15) rfl (congrArg Value.bool hb32)
    refine d_take hK 4 rfl (by kernel_rfl) (by kernel_rfl) (by kernel_rfl) rfl rfl rfl hS (fun _ _ _ h => h) (fun w hS => r_ldA ta40 (hb16.at ((hMd.step hS).a 1 rfl) 0 10 rfl rfl rfl) rfl hK rfl rfl) fun a hK => ?_
    refine d_take hK 5 rfl (by kernel_rfl) (by kernel_rfl) (by kernel_rfl) rfl rfl rfl hS (fun _ _ _ h => h) (fun w hS => r_ldA ta40 (hb16.at ((hMd.step hS).a 1 rfl) 0 10 rfl rfl rfl) rfl hK rfl rfl) fun a hK => ?_
    refine d_pure hK 6 rfl (by kernel_rfl) (by kernel_rfl) (by kernel_rfl) rfl rfl rfl hS (fun _ _ _ h => h) rfl fun a hK => ?_
    refine d_take hK 9 rfl (by kernel_rfl) (by kernel_rfl) (by kernel_rfl) rfl rfl rfl hS (fun _ _ _ h => h) (fun w hS => r_fa fa92_5 hK rfl rfl) fun a hK => ?_
    refine d_take hK 10 rfl (by kernel_rfl) (by kernel_rfl) (by kernel_rfl) rfl rfl rfl hS (fun _ _ _ h => h) (fun w hS => r_ld1 t13 (r := []) (hb26.at ((hMd.step hS).a 0 rfl) 5 1 rfl rfl rfl) hK rfl rfl) fun a hK => ?_
    refine d_one 7 (by kernel_rfl) rfl ?_
    obtain ⟨x33, hx34, h⟩ := obind_some h
    refine s_call hK Tryz.call91 rfl rfl rfl rfl rfl (c_spec_UnitsOf fu _ _ (show rd _ _ [.int .i64 (r1.fWay), .int .i64 (r1.fPallet.fW), .int .i64 (r1.fPallet.fD), .int .i64 (r1.fPallet.fH), .int .i64 (r1.fPallet.fGram), .int .i64 (r1.fClasses), v6, v8, .int .i64 (r1.fMaster), v10] (r1 : Request) from ⟨_, _, _, _, _, _, rfl, rfl, (Enc.rd_agr hf12 (hM.a00 (Enc.rd_lt hf12))), (Enc.rd_agr hf13 (hM.a00 (Enc.rd_lt hf13))), (Enc.rd_agr hf14 (hM.a00 (Enc.rd_lt hf14)))⟩) hx34) fun e35 w36 hR => ?_
    obtain ⟨v41, F37, rfl, hE, hf38, hfr39⟩ := hR
    refine ⟨_, rfl, fun a hK => ?_⟩
    have hM := hM.new hE F37 (fun b hb => ⟨hfr39 b hb, Enc.rd_lt (Enc.ow_rd hf38) b hb⟩) (Enc.ow_nd hf38)
    have hlo42 := fun (y : Nat) (hy : y ∈ F37) => Nat.le_trans hS.size (hfr39 y hy)
    have hS := hS.trans hE (by simp)
    refine wpList_nil ⟨hS, ?_⟩
    refine d_one 8 (by kernel_rfl) rfl ?_
    obtain ⟨x43, hx44, h⟩ := obind_some h
    refine s_call hK Tryz.call90 rfl rfl rfl rfl rfl (c_spec_GramOf fu _ _ (show rd _ _ [.int .i64 (r1.fWay), .int .i64 (r1.fPallet.fW), .int .i64 (r1.fPallet.fD), .int .i64 (r1.fPallet.fH), .int .i64 (r1.fPallet.fGram), .int .i64 (r1.fClasses), v6, v8, .int .i64 (r1.fMaster), v10] (r1 : Request) from ⟨_, _, _, _, _, _, rfl, rfl, (Enc.rd_agr hf12 (hM.a00 (Enc.rd_lt hf12))), (Enc.rd_agr hf13 (hM.a00 (Enc.rd_lt hf13))), (Enc.rd_agr hf14 (hM.a00 (Enc.rd_lt hf14)))⟩) (Enc.rd_agr (Enc.ow_rd hf38) (hM.a 0 rfl)) hx44) fun e45 w46 hR => ?_
    obtain ⟨rfl, hE⟩ := hR
    refine ⟨_, rfl, fun a hK => ?_⟩
    have hM := hM.step hE
    have hS := hS.trans hE (by simp)
    refine wpList_nil ⟨hS, ?_⟩
    refine d_pure hK 11 rfl (by kernel_rfl) (by kernel_rfl) (by kernel_rfl) rfl rfl rfl hS (fun _ _ _ h => h) rfl fun a hK => ?_
    refine d_pure hK 12 rfl (by kernel_rfl) (by kernel_rfl) (by kernel_rfl) rfl rfl rfl hS (fun _ _ _ h => h) rfl fun a hK => ?_
    refine d_pure hK 13 rfl (by kernel_rfl) (by kernel_rfl) (by kernel_rfl) rfl rfl rfl hS (fun _ _ _ h => h) rfl fun a hK => ?_
    refine d_done (by kernel_rfl) ?_
    refine (nm_then ?_)
    refine wp_ret ?_
    have h := Option.some.inj h
    subst h
    exact finR1 hK rfl (RV.tmp hK rfl) ⟨rfl, hM.ext⟩
  · have h := bif_f hb32 h
    have hK := hK.re (d := 15) rfl (congrArg Value.bool hb32)
    refine d_skip hK 4 rfl (by kernel_rfl) (by kernel_rfl) (by kernel_rfl) rfl rfl rfl hS (fun _ _ _ h => h) fun a hK => ?_
    refine d_skip hK 5 rfl (by kernel_rfl) (by kernel_rfl) (by kernel_rfl) rfl rfl rfl hS (fun _ _ _ h => h) fun a hK => ?_
    refine d_skip hK 6 rfl (by kernel_rfl) (by kernel_rfl) (by kernel_rfl) rfl rfl rfl hS (fun _ _ _ h => h) fun a hK => ?_
    refine d_skip hK 7 rfl (by kernel_rfl) (by kernel_rfl) (by kernel_rfl) rfl rfl rfl hS (fun _ _ _ h => h) fun a hK => ?_
    refine d_skip hK 8 rfl (by kernel_rfl) (by kernel_rfl) (by kernel_rfl) rfl rfl rfl hS (fun _ _ _ h => h) fun a hK => ?_
    refine d_skip hK 9 rfl (by kernel_rfl) (by kernel_rfl) (by kernel_rfl) rfl rfl rfl hS (fun _ _ _ h => h) fun a hK => ?_
    refine d_skip hK 10 rfl (by kernel_rfl) (by kernel_rfl) (by kernel_rfl) rfl rfl rfl hS (fun _ _ _ h => h) fun a hK => ?_
    refine d_skip hK 11 rfl (by kernel_rfl) (by kernel_rfl) (by kernel_rfl) rfl rfl rfl hS (fun _ _ _ h => h) fun a hK => ?_
    refine d_pure hK 12 rfl (by kernel_rfl) (by kernel_rfl) (by kernel_rfl) rfl rfl rfl hS (fun _ _ _ h => h) rfl fun a hK => ?_
    refine d_pure hK 13 rfl (by kernel_rfl) (by kernel_rfl) (by kernel_rfl) rfl rfl rfl hS (fun _ _ _ h => h) rfl fun a hK => ?_
    refine d_done (by kernel_rfl) ?_
    refine (nm_then ?_)
    refine wp_ret ?_
    have h := Option.some.inj h
    subst h
    exact finR1 hK rfl (RV.tmp hK rfl) ⟨rfl, hM.ext⟩

end Go.Proofs.YthjbcfefkdbgoaaGreat
