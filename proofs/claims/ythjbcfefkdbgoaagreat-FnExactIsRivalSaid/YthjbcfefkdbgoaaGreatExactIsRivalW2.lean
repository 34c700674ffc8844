/- FnExactIsRival: the walks of functions that the law reaches, part 2. Printed by gen.py. -/
import Derived.Test.YthjbcfefkdbgoaaGreatExactIsRivalW1
set_option maxRecDepth 20000
set_option linter.unusedSimpArgs false
set_option linter.unusedVariables false
namespace Go.Proofs.YthjbcfefkdbgoaaGreat
open Go Go.RowKit
open Enc (rd ow)
open Arg (argv)
open Ret (retv)
open Go.Proofs.Tryz

theorem bt120 : BT Tryz.prog 120 [.int .i64 0, .int .i64 0, .int .i64 0, .int .i64 0, .int .i64 0, .int .i64 0, .int .i64 0] #[(0, 1), (1, 1), (2, 1), (3, 1), (4, 1), (5, 1), (6, 1)] := ⟨zeroValue120, _, underlying120, fun w => by simp [sizeOf3]⟩
theorem bt163 : BT Tryz.prog 163 [.int .i64 0, .int .i64 0] #[(0, 1), (1, 1)] := ⟨zeroValue163, _, underlying163, fun w => by simp [sizeOf3]⟩
theorem fa163_0 : FA Tryz.prog 163 0 0 := fa_of (n := 0) underlying163 rfl rfl sizeOf3
theorem fa163_1 : FA Tryz.prog 163 1 1 := fa_of (n := 0) underlying163 rfl rfl sizeOf3
theorem ta163 : TA Tryz.prog 163 2 := ⟨Tryz.isAgg163, sizeOf163⟩

def d_spec_Beside_J1 (fu : Nat) (k3 : Int → Option (Bool)) (i39 : Int)  : Option (Bool) :=
  k3 (w64 (i39 + 1))

def d_spec_Beside_L1_B (fu : Nat)  (pairs1 : List Pair) (a5 : Int) (b6 : Int) (k3 : Int → Option (Bool)) (i39 : Int) : Option (Bool) :=
  bif (decide (i39 < ((pairs1.length : Int)))) then obind (ix pairs1 i39) fun x49 => bif (x49.fA == a5) then obind (ix pairs1 i39) fun x52 => bif (x49.fB == b6) then some (true) else d_spec_Beside_J1 fu k3 i39 else d_spec_Beside_J1 fu k3 i39 else some (false)
def d_spec_Beside_L1 (fu : Nat)  (pairs1 : List Pair) (a5 : Int) (b6 : Int) : Nat → Int → Option (Bool)
  | 0 => fun _ => none
  | n + 1 => d_spec_Beside_L1_B fu pairs1 a5 b6 (d_spec_Beside_L1 fu pairs1 a5 b6 n)
theorem d_spec_Beside_L1_s (fu : Nat)  (pairs1 : List Pair) (a5 : Int) (b6 : Int) (n : Nat) : d_spec_Beside_L1 fu pairs1 a5 b6 (n + 1) = d_spec_Beside_L1_B fu pairs1 a5 b6 (d_spec_Beside_L1 fu pairs1 a5 b6 n) := rfl

def d_spec_Beside (fu : Nat) (pairs1 : List Pair) (a5 : Int) (b6 : Int) : Option (Bool) :=
  d_spec_Beside_L1 fu pairs1 a5 b6 fu 0

def d_spec_TableOk_J1 (fu : Nat) (k12 : Int → Option (Bool)) (b436 : Int)  : Option (Bool) :=
  k12 (w64 (b436 + 1))

def d_spec_TableOk_L1_B (fu : Nat) (k9 : Int → Option (Bool)) (pairs1 : List Pair) (classes5 : Int) (a329 : Int) (k12 : Int → Option (Bool)) (b436 : Int) : Option (Bool) :=
  bif (decide (b436 < classes5)) then bif (a329 == b436) then obind (d_spec_Beside fu pairs1 a329 a329) fun x465 => bif (!x465) then some (false) else obind (d_spec_Beside fu pairs1 a329 b436) fun x470 => obind (d_spec_Beside fu pairs1 b436 a329) fun x474 => bif (!(x470 == x474)) then some (false) else d_spec_TableOk_J1 fu k12 b436 else obind (d_spec_Beside fu pairs1 a329 b436) fun x479 => obind (d_spec_Beside fu pairs1 b436 a329) fun x483 => bif (!(x479 == x483)) then some (false) else d_spec_TableOk_J1 fu k12 b436 else k9 (w64 (a329 + 1))
def d_spec_TableOk_L1 (fu : Nat) (k9 : Int → Option (Bool)) (pairs1 : List Pair) (classes5 : Int) (a329 : Int) : Nat → Int → Option (Bool)
  | 0 => fun _ => none
  | n + 1 => d_spec_TableOk_L1_B fu k9 pairs1 classes5 a329 (d_spec_TableOk_L1 fu k9 pairs1 classes5 a329 n)
theorem d_spec_TableOk_L1_s (fu : Nat) (k9 : Int → Option (Bool)) (pairs1 : List Pair) (classes5 : Int) (a329 : Int) (n : Nat) : d_spec_TableOk_L1 fu k9 pairs1 classes5 a329 (n + 1) = d_spec_TableOk_L1_B fu k9 pairs1 classes5 a329 (d_spec_TableOk_L1 fu k9 pairs1 classes5 a329 n) := rfl

def d_spec_TableOk_L2_B (fu : Nat)  (pairs1 : List Pair) (classes5 : Int) (k9 : Int → Option (Bool)) (a329 : Int) : Option (Bool) :=
  bif (decide (a329 < classes5)) then d_spec_TableOk_L1 fu k9 pairs1 classes5 a329 fu 0 else some (true)
def d_spec_TableOk_L2 (fu : Nat)  (pairs1 : List Pair) (classes5 : Int) : Nat → Int → Option (Bool)
  | 0 => fun _ => none
  | n + 1 => d_spec_TableOk_L2_B fu pairs1 classes5 (d_spec_TableOk_L2 fu pairs1 classes5 n)
theorem d_spec_TableOk_L2_s (fu : Nat)  (pairs1 : List Pair) (classes5 : Int) (n : Nat) : d_spec_TableOk_L2 fu pairs1 classes5 (n + 1) = d_spec_TableOk_L2_B fu pairs1 classes5 (d_spec_TableOk_L2 fu pairs1 classes5 n) := rfl

def d_spec_TableOk (fu : Nat) (pairs1 : List Pair) (classes5 : Int) : Option (Bool) :=
  obind (d_spec_l1In fu classes5 1 4) fun x6 => bif (!x6) then some (false) else d_spec_TableOk_L2 fu pairs1 classes5 fu 0

def d_spec_l1Places_L1_B (fu : Nat)  (n1 : Int) (k1 : List Int → Int → Option ((List Int))) (out40 : List Int) (i45 : Int) : Option ((List Int)) :=
  bif (decide (i45 < n1)) then obind (apnd 8 out40 (([i45] : List Int))) fun x53 => k1 x53 (w64 (i45 + 1)) else some (out40)
def d_spec_l1Places_L1 (fu : Nat)  (n1 : Int) : Nat → List Int → Int → Option ((List Int))
  | 0 => fun _ _ => none
  | n + 1 => d_spec_l1Places_L1_B fu n1 (d_spec_l1Places_L1 fu n1 n)
theorem d_spec_l1Places_L1_s (fu : Nat)  (n1 : Int) (n : Nat) : d_spec_l1Places_L1 fu n1 (n + 1) = d_spec_l1Places_L1_B fu n1 (d_spec_l1Places_L1 fu n1 n) := rfl

def d_spec_l1Places (fu : Nat) (n1 : Int) : Option ((List Int)) :=
  d_spec_l1Places_L1 fu n1 fu (([] : List Int)) 0

def d_spec_l1Merge_J1 (fu : Nat) (k3 : List Int → Int → Int → Option ((List Int))) (keys1 : List Int) (down9 : Bool) (x27 : (List Int)) (x41 : (List Int)) (out375 : List Int) (i380 : Int) (j381 : Int)  : Option ((List Int)) :=
  bif (j381 == ((x41.length : Int))) then obind (ix x27 i380) fun x387 => obind (apnd 8 out375 (([x387] : List Int))) fun x394 => k3 x394 (w64 (i380 + 1)) j381 else bif (i380 == ((x27.length : Int))) then obind (ix x41 j381) fun x401 => obind (apnd 8 out375 (([x401] : List Int))) fun x408 => k3 x408 i380 (w64 (j381 + 1)) else obind (ix x41 j381) fun x415 => obind (ix keys1 x415) fun x417 => obind (ix x27 i380) fun x419 => obind (ix keys1 x419) fun x421 => bif (decide (x417 < x421)) then bif (!down9) then obind (ix x41 j381) fun x425 => obind (apnd 8 out375 (([x415] : List Int))) fun x432 => k3 x432 i380 (w64 (j381 + 1)) else obind (ix x41 j381) fun x438 => obind (ix keys1 x415) fun x440 => obind (ix x27 i380) fun x442 => obind (ix keys1 x419) fun x444 => bif (decide (x417 > x421)) then bif down9 then obind (ix x41 j381) fun x448 => obind (apnd 8 out375 (([x415] : List Int))) fun x455 => k3 x455 i380 (w64 (j381 + 1)) else obind (ix x27 i380) fun x461 => obind (apnd 8 out375 (([x419] : List Int))) fun x468 => k3 x468 (w64 (i380 + 1)) j381 else obind (ix x27 i380) fun x474 => obind (apnd 8 out375 (([x419] : List Int))) fun x481 => k3 x481 (w64 (i380 + 1)) j381 else obind (ix x41 j381) fun x487 => obind (ix keys1 x415) fun x489 => obind (ix x27 i380) fun x491 => obind (ix keys1 x419) fun x493 => bif (decide (x417 > x421)) then bif down9 then obind (ix x41 j381) fun x497 => obind (apnd 8 out375 (([x415] : List Int))) fun x504 => k3 x504 i380 (w64 (j381 + 1)) else obind (ix x27 i380) fun x510 => obind (apnd 8 out375 (([x419] : List Int))) fun x517 => k3 x517 (w64 (i380 + 1)) j381 else obind (ix x27 i380) fun x523 => obind (apnd 8 out375 (([x419] : List Int))) fun x530 => k3 x530 (w64 (i380 + 1)) j381

def d_spec_l1Merge_L1_B (fu : Nat)  (keys1 : List Int) (down9 : Bool) (x27 : (List Int)) (x41 : (List Int)) (k3 : List Int → Int → Int → Option ((List Int))) (out375 : List Int) (i380 : Int) (j381 : Int) : Option ((List Int)) :=
  bif (decide (i380 < ((x27.length : Int)))) then d_spec_l1Merge_J1 fu k3 keys1 down9 x27 x41 out375 i380 j381 else bif (decide (j381 < ((x41.length : Int)))) then d_spec_l1Merge_J1 fu k3 keys1 down9 x27 x41 out375 i380 j381 else some (out375)
def d_spec_l1Merge_L1 (fu : Nat)  (keys1 : List Int) (down9 : Bool) (x27 : (List Int)) (x41 : (List Int)) : Nat → List Int → Int → Int → Option ((List Int))
  | 0 => fun _ _ _ => none
  | n + 1 => d_spec_l1Merge_L1_B fu keys1 down9 x27 x41 (d_spec_l1Merge_L1 fu keys1 down9 x27 x41 n)
theorem d_spec_l1Merge_L1_s (fu : Nat)  (keys1 : List Int) (down9 : Bool) (x27 : (List Int)) (x41 : (List Int)) (n : Nat) : d_spec_l1Merge_L1 fu keys1 down9 x27 x41 (n + 1) = d_spec_l1Merge_L1_B fu keys1 down9 x27 x41 (d_spec_l1Merge_L1 fu keys1 down9 x27 x41 n) := rfl

def d_spec_l1Merge_RB (fu : Nat) (self : List Int → List Int → Bool → Option ((List Int))) (keys1 : List Int) (places5 : List Int) (down9 : Bool) : Option ((List Int)) :=
  bif (decide (((places5.length : Int)) < 2)) then obind (apnd 8 (([] : List Int)) places5) fun x16 => some (x16) else obind (sls places5 0 (w64 (Int.tdiv ((places5.length : Int)) 2))) fun x22 => obind (self keys1 x22 down9) fun x27 => obind (sls places5 (w64 (Int.tdiv ((places5.length : Int)) 2)) (places5.length : Int)) fun x36 => obind (self keys1 x36 down9) fun x41 => d_spec_l1Merge_L1 fu keys1 down9 x27 x41 fu (([] : List Int)) 0 0
def d_spec_l1Merge_R (fu : Nat) : Nat → List Int → List Int → Bool → Option ((List Int))
  | 0 => fun _ _ _ => none
  | n + 1 => d_spec_l1Merge_RB fu (d_spec_l1Merge_R fu n)
theorem d_spec_l1Merge_Rs (fu : Nat) (n : Nat) : d_spec_l1Merge_R fu (n + 1) = d_spec_l1Merge_RB fu (d_spec_l1Merge_R fu n) := rfl
def d_spec_l1Merge (fu : Nat) (keys1 : List Int) (places5 : List Int) (down9 : Bool) : Option ((List Int)) := d_spec_l1Merge_R fu fu keys1 places5 down9

def d_spec_SortUp (fu : Nat) (keys1 : List Int) : Option ((List Int)) :=
  obind (d_spec_l1Places fu ((keys1.length : Int))) fun x5 => obind (d_spec_l1Merge fu keys1 x5 false) fun x14 => some (x14)

def d_spec_l5Sides (fu : Nat) (wv1 : Int) (h2 : Int) (d3 : Int) : Option ((List Int)) :=
  obind (d_spec_SortUp fu (([wv1, h2, d3] : List Int))) fun x9 => obind (ix x9 0) fun x19 => obind (ix (([wv1, h2, d3] : List Int)) x19) fun x21 => obind (ix x9 1) fun x23 => obind (ix (([wv1, h2, d3] : List Int)) x23) fun x25 => obind (ix x9 2) fun x27 => obind (ix (([wv1, h2, d3] : List Int)) x27) fun x29 => some (([x21, x25, x29] : List Int))

def d_spec_Fits (fu : Nat) (x1 : Item) (t2 : Typ) : Option (Bool) :=
  obind (d_spec_l5Sides fu x1.fW x1.fH x1.fD) fun x9 => obind (d_spec_l5Sides fu t2.fW t2.fH t2.fD) fun x18 => obind (ix x9 0) fun x28 => obind (ix x18 0) fun x30 => bif (decide (x28 ≤ x30)) then obind (ix x9 1) fun x33 => obind (ix x18 1) fun x35 => bif (decide (x33 ≤ x35)) then obind (ix x9 2) fun x38 => obind (ix x18 2) fun x40 => bif (decide (x38 ≤ x40)) then some (decide (x1.fGram ≤ t2.fGram)) else some (false) else some (false) else some (false)

def d_spec_Class_J1 (fu : Nat) (k4 : Int → Option (Int)) (i126 : Int)  : Option (Int) :=
  k4 (w64 (i126 + 1))

def d_spec_Class_L1_B (fu : Nat)  (r1 : Request) (k4 : Int → Option (Int)) (i126 : Int) : Option (Int) :=
  bif (decide (i126 < ((r1.fTypes.length : Int)))) then obind (ix r1.fTypes i126) fun x141 => bif (decide (x141.fW > r1.fPallet.fW)) then some (6) else bif (decide (x141.fD > r1.fPallet.fD)) then some (6) else bif (decide (x141.fH > r1.fPallet.fH)) then some (6) else bif (decide ((w64 (x141.fTare + x141.fGram)) > r1.fPallet.fGram)) then some (6) else d_spec_Class_J1 fu k4 i126 else some (0)
def d_spec_Class_L1 (fu : Nat)  (r1 : Request) : Nat → Int → Option (Int)
  | 0 => fun _ => none
  | n + 1 => d_spec_Class_L1_B fu r1 (d_spec_Class_L1 fu r1 n)
theorem d_spec_Class_L1_s (fu : Nat)  (r1 : Request) (n : Nat) : d_spec_Class_L1 fu r1 (n + 1) = d_spec_Class_L1_B fu r1 (d_spec_Class_L1 fu r1 n) := rfl

def d_spec_Class_L2_B (fu : Nat)  (r1 : Request) (x32 : Typ × Bool) (k1 : Int → Option (Int)) (i63 : Int) : Option (Int) :=
  bif (decide (i63 < ((r1.fItems.length : Int)))) then obind (ix r1.fItems i63) fun x67 => obind (d_spec_Fits fu x67 x32.1) fun x69 => bif (!x69) then some (5) else k1 (w64 (i63 + 1)) else d_spec_Class_L1 fu r1 fu 0
def d_spec_Class_L2 (fu : Nat)  (r1 : Request) (x32 : Typ × Bool) : Nat → Int → Option (Int)
  | 0 => fun _ => none
  | n + 1 => d_spec_Class_L2_B fu r1 x32 (d_spec_Class_L2 fu r1 x32 n)
theorem d_spec_Class_L2_s (fu : Nat)  (r1 : Request) (x32 : Typ × Bool) (n : Nat) : d_spec_Class_L2 fu r1 x32 (n + 1) = d_spec_Class_L2_B fu r1 x32 (d_spec_Class_L2 fu r1 x32 n) := rfl

def d_spec_Class (fu : Nat) (r1 : Request) : Option (Int) :=
  obind (d_spec_BoundsOk fu r1) fun x17 => bif (!x17) then some (2) else obind (d_spec_l5Names fu r1) fun x22 => bif (!x22) then some (3) else obind (d_spec_TableOk fu r1.fPairs r1.fClasses) fun x27 => bif (!x27) then some (4) else obind (d_spec_MasterOf fu r1) fun x32 => d_spec_Class_L2 fu r1 x32 fu 0

def d_spec_l6Units_L1_B (fu : Nat) (k3 : List Int → Int → Option ((List Int))) (r1 : Request) (i154 : Int) (k4 : List Int → Int → Option ((List Int))) (out194 : List Int) (kv199 : Int) : Option ((List Int)) :=
  obind (ix r1.fItems i154) fun x201 => bif (decide (kv199 < x201.fCount)) then obind (apnd 8 out194 (([i154] : List Int))) fun x209 => k4 x209 (w64 (kv199 + 1)) else k3 out194 (w64 (i154 + 1))
def d_spec_l6Units_L1 (fu : Nat) (k3 : List Int → Int → Option ((List Int))) (r1 : Request) (i154 : Int) : Nat → List Int → Int → Option ((List Int))
  | 0 => fun _ _ => none
  | n + 1 => d_spec_l6Units_L1_B fu k3 r1 i154 (d_spec_l6Units_L1 fu k3 r1 i154 n)
theorem d_spec_l6Units_L1_s (fu : Nat) (k3 : List Int → Int → Option ((List Int))) (r1 : Request) (i154 : Int) (n : Nat) : d_spec_l6Units_L1 fu k3 r1 i154 (n + 1) = d_spec_l6Units_L1_B fu k3 r1 i154 (d_spec_l6Units_L1 fu k3 r1 i154 n) := rfl

def d_spec_l6Units_L2_B (fu : Nat)  (r1 : Request) (k3 : List Int → Int → Option ((List Int))) (out149 : List Int) (i154 : Int) : Option ((List Int)) :=
  bif (decide (i154 < ((r1.fItems.length : Int)))) then d_spec_l6Units_L1 fu k3 r1 i154 fu out149 0 else some (out149)
def d_spec_l6Units_L2 (fu : Nat)  (r1 : Request) : Nat → List Int → Int → Option ((List Int))
  | 0 => fun _ _ => none
  | n + 1 => d_spec_l6Units_L2_B fu r1 (d_spec_l6Units_L2 fu r1 n)
theorem d_spec_l6Units_L2_s (fu : Nat)  (r1 : Request) (n : Nat) : d_spec_l6Units_L2 fu r1 (n + 1) = d_spec_l6Units_L2_B fu r1 (d_spec_l6Units_L2 fu r1 n) := rfl

def d_spec_l6Units (fu : Nat) (r1 : Request) : Option ((List Int)) :=
  d_spec_l6Units_L2 fu r1 fu (([] : List Int)) 0

def d_spec_Units (fu : Nat) (r1 : Request) : Option ((List Int)) :=
  obind (d_spec_Class fu r1) fun x17 => bif (x17 != 0) then some (([] : List Int)) else obind (d_spec_l6Units fu r1) fun x27 => some (x27)

def d_spec_l6Item (fu : Nat) (r1 : Request) (units5 : List Int) (u9 : Int) : Option (Item × Bool) :=
  obind (d_spec_l1In fu u9 0 (w64 (((units5.length : Int)) - 1))) fun x25 => bif (!x25) then some ((⟨0, 0, 0, 0, 0, 0, 0⟩ : Item), false) else obind (ix units5 u9) fun x33 => obind (ix r1.fItems x33) fun x35 => some (x35, true)

def d_spec_Volume_J1 (fu : Nat) (wv1 : Int) (h2 : Int) (d3 : Int)  : Option (Int) :=
  some (w64 ((w64 (wv1 * h2)) * d3))

def d_spec_Volume (fu : Nat) (wv1 : Int) (h2 : Int) (d3 : Int) : Option (Int) :=
  obind (d_spec_l1In fu wv1 0 2000) fun x20 => bif (!x20) then some (0) else obind (d_spec_l1In fu h2 0 2000) fun x25 => bif (!x25) then some (0) else obind (d_spec_l1In fu d3 0 2000) fun x30 => bif (!x30) then some (0) else d_spec_Volume_J1 fu wv1 h2 d3

def d_spec_l7Of_J1 (fu : Nat) (k7 : L7 → Int → Option (L7)) (i341 : Int) (l419 : L7) : Option (L7) :=
  k7 l419 (w64 (i341 + 1))

def d_spec_l7Of_J2 (fu : Nat) (k7 : L7 → Int → Option (L7)) (l340 : L7) (i341 : Int) (i449 : Item) : Option (L7) :=
  obind (d_spec_Volume fu i449.fW i449.fH i449.fD) fun x451 => d_spec_l7Of_J1 fu k7 i341 ((⟨w64 (l340.fvol + x451), w64 (l340.fgram + i449.fGram)⟩ : L7))

def d_spec_l7Of_L1_B (fu : Nat)  (r1 : Request) (all5 : List Int) (units9 : List Int) (k7 : L7 → Int → Option (L7)) (l340 : L7) (i341 : Int) : Option (L7) :=
  bif (decide (i341 < ((units9.length : Int)))) then obind (ix units9 i341) fun x468 => obind (d_spec_l6Item fu r1 all5 x468) fun x470 => d_spec_l7Of_J2 fu k7 l340 i341 x470.1 else some (l340)
def d_spec_l7Of_L1 (fu : Nat)  (r1 : Request) (all5 : List Int) (units9 : List Int) : Nat → L7 → Int → Option (L7)
  | 0 => fun _ _ => none
  | n + 1 => d_spec_l7Of_L1_B fu r1 all5 units9 (d_spec_l7Of_L1 fu r1 all5 units9 n)
theorem d_spec_l7Of_L1_s (fu : Nat)  (r1 : Request) (all5 : List Int) (units9 : List Int) (n : Nat) : d_spec_l7Of_L1 fu r1 all5 units9 (n + 1) = d_spec_l7Of_L1_B fu r1 all5 units9 (d_spec_l7Of_L1 fu r1 all5 units9 n) := rfl

def d_spec_l7Of (fu : Nat) (r1 : Request) (all5 : List Int) (units9 : List Int) : Option (L7) :=
  d_spec_l7Of_L1 fu r1 all5 units9 fu ((⟨0, 0⟩ : L7)) 0

theorem c_spec_Beside (fu : Nat) {w0 : World} (pairs1 : List Pair) (a5 : Int) (b6 : Int) {v2 : Value} {F3 : List Nat} (hp4 : rd w0 F3 [v2] pairs1) {r : Bool}
    (h : d_spec_Beside fu pairs1 a5 b6 = some r) :
    Calls Tryz.prog 113 #[v2, .int .i64 a5, .int .i64 b6] w0 fun e w => e = .returned (.bool (r)) ∧ Ext [] w0 w := by
 refine enter (vs := [_, _, _]) func113 rfl ntmps113 rfl fun a k => ?_
 have m := St.start w0
 unfold d_spec_Beside at h
 refine wr (pN 1 k rfl fun a k => nn (wp_seq (wr (pN 1 k rfl fun a k => nn (wp_block (c_loop (fun n a w => ∃ (i39 : Int), K 30 [(0, v2), (1, .int .i64 a5), (2, .int .i64 b6), (7, .int .i64 i39)] a ∧ St [] w0 w [] ∧ d_spec_Beside_L1 fu pairs1 a5 b6 n i39 = some r) ?_ ?_ fu _ _ ?_))))))
 · rintro a w ⟨_, _, _, h⟩
   exact nS h
 · rintro m40 a w38 ⟨i39, k, m, h⟩
   rw [d_spec_Beside_L1_s] at h
   unfold d_spec_Beside_L1_B at h
   refine wp_seq (wr (pN 2 k rfl fun a k => sv k rfl (r_len (α := Pair) hp4 k underlying36 rfl rfl) fun a k => pN 1 k rfl fun a k => nn (cI h k rfl (fun hb41 h => ?_) fun hb41 h => ?_)))
   · refine wp_skip (nm_then ?_)
     refine c_cut (fun a w => K 30 [(0, v2), (1, .int .i64 a5), (2, .int .i64 b6), (7, .int .i64 i39)] a ∧ St [] w0 w [] ∧ d_spec_Beside_J1 fu (d_spec_Beside_L1 fu pairs1 a5 b6 m40) i39 = some r) ?_ ?_
     · rintro a w48 ⟨k, m, h⟩
       unfold d_spec_Beside_J1 at h
       refine wp_region_lit (pN 3 k rfl fun a k => nn ?_)
       exact ⟨w64 (i39 + 1), k.keep [0, 1, 2, 7] rfl, m.sel [] rfl (by decide), h⟩
     refine wp_block (wr (pN 2 k rfl fun a k => oE h fun x49 hx50 h => sv k rfl (r_ixa hp4 hx50 k ts36 rfl rfl rfl) fun a k => sv k rfl (r_fa fa144_0 k rfl rfl) fun a k => sv k rfl (r_lde1 hp4 (m.a00 (Enc.rd_lt hp4)) hx50 0 t13 k rfl rfl rfl rfl) fun a k => pN 3 k rfl fun a k => bsplit (x49.fA == a5) (fun hb51 => ?_) (fun hb51 => ?_)))
     · have h := bif_t hb51 h
       refine rB k 21 rfl hb51 fun k => pN 2 k rfl fun a k => oE h fun x52 hx53 h => sv k rfl (r_ixa hp4 hx50 k ts36 rfl rfl rfl) fun a k => sv k rfl (r_fa fa144_1 k rfl rfl) fun a k => sv k rfl (r_lde1 hp4 (m.a00 (Enc.rd_lt hp4)) hx50 1 t13 k rfl rfl rfl rfl) fun a k => pN 3 k rfl fun a k => nn (cI h k rfl (fun hb54 h => ?_) fun hb54 h => ?_)
       · refine wr (pN 1 k rfl fun a k => nn (wp_ret (rt_block (rt_then (rt_then (rt_block (rt_then ?_)))))))
         refine fS h k m rfl rfl
       refine wp_skip (nm_block (nm_then ?_))
       exact ⟨k.keep [0, 1, 2, 7] rfl, m.sel [] rfl (by decide), h⟩
     have h := bif_f hb51 h
     refine rB k 21 rfl hb51 fun k => pN 8 k rfl fun a k => nn (wp_cond_false (k.ev rfl) (wp_skip (nm_block (nm_then ?_))))
     exact ⟨k.keep [0, 1, 2, 7] rfl, m.sel [] rfl (by decide), h⟩
   refine wp_exit (ex_then (ex_then (ex_same (nm_then ?_))))
   refine wr (pN 1 k rfl fun a k => nn (wp_ret (fS h k m rfl rfl)))
 exact ⟨0, k.keep [0, 1, 2, 7] rfl, m.sel [] rfl (by decide), h⟩
theorem c_spec_TableOk (fu : Nat) {w0 : World} (pairs1 : List Pair) (classes5 : Int) {v2 : Value} {F3 : List Nat} (hp4 : rd w0 F3 [v2] pairs1) {r : Bool}
    (h : d_spec_TableOk fu pairs1 classes5 = some r) :
    Calls Tryz.prog 134 #[v2, .int .i64 classes5] w0 fun e w => e = .returned (.bool (r)) ∧ Ext [] w0 w := by
 refine enter (vs := [_, _]) func134 rfl ntmps134 rfl fun a k => ?_
 have m := St.start w0
 unfold d_spec_TableOk at h
 refine wr (pN 1 k rfl fun a k => nn (wp_seq (wr (pN 1 k rfl fun a k => oE h fun x6 hx7 h => cE k m call136 rfl rfl rfl (c_spec_l1In fu _ _ _  hx7) fun w9 e a k m => pN 1 k rfl fun a k => nn (cI h k rfl (fun hb10 h => ?_) fun hb10 h => ?_)))))
 · refine wr (pN 1 k rfl fun a k => nn (wp_ret (rt_then ?_)))
   refine fS h k m rfl rfl
 refine wp_skip (nm_then ?_)
 refine wp_seq (wr (pN 1 k rfl fun a k => nn (wp_block (c_loop (fun n a w => ∃ (a329 : Int), K 41 [(0, v2), (1, .int .i64 classes5), (5, .int .i64 a329)] a ∧ St [] w0 w [] ∧ d_spec_TableOk_L2 fu pairs1 classes5 n a329 = some r) ?_ ?_ fu _ _ ?_))))
 · rintro a w ⟨_, _, _, h⟩
   exact nS h
 · rintro m330 a w328 ⟨a329, k, m, h⟩
   rw [d_spec_TableOk_L2_s] at h
   unfold d_spec_TableOk_L2_B at h
   refine wp_seq (wr (pN 3 k rfl fun a k => nn (cI h k rfl (fun hb331 h => ?_) fun hb331 h => ?_)))
   · refine wp_skip (nm_then ?_)
     refine wp_seq (wp_block (wr (pN 1 k rfl fun a k => nn (wp_block (c_loop (fun n a w => ∃ (b436 : Int), K 41 [(0, v2), (1, .int .i64 classes5), (5, .int .i64 a329), (6, .int .i64 b436)] a ∧ St [] w0 w [] ∧ d_spec_TableOk_L1 fu (d_spec_TableOk_L2 fu pairs1 classes5 m330) pairs1 classes5 a329 n b436 = some r) ?_ ?_ fu _ _ ?_)))))
     · rintro a w ⟨_, _, _, h⟩
       exact nS h
     · rintro m437 a w435 ⟨b436, k, m, h⟩
       rw [d_spec_TableOk_L1_s] at h
       unfold d_spec_TableOk_L1_B at h
       refine wp_seq (wr (pN 3 k rfl fun a k => nn (cI h k rfl (fun hb438 h => ?_) fun hb438 h => ?_)))
       · refine wp_skip (nm_then ?_)
         refine c_cut (fun a w => K 41 [(0, v2), (1, .int .i64 classes5), (5, .int .i64 a329), (6, .int .i64 b436)] a ∧ St [] w0 w [] ∧ d_spec_TableOk_J1 fu (d_spec_TableOk_L1 fu (d_spec_TableOk_L2 fu pairs1 classes5 m330) pairs1 classes5 a329 m437) b436 = some r) ?_ ?_
         · rintro a w463 ⟨k, m, h⟩
           unfold d_spec_TableOk_J1 at h
           refine wp_region_lit (pN 3 k rfl fun a k => nn ?_)
           exact ⟨w64 (b436 + 1), k.keep [0, 1, 5, 6] rfl, m.sel [] rfl (by decide), h⟩
         refine wp_block (wr (pN 4 k rfl fun a k => bsplit (a329 == b436) (fun hb464 => ?_) (fun hb464 => ?_)))
         · have h := bif_t hb464 h
           refine rB k 23 rfl hb464 fun k => pN 3 k rfl fun a k => oE h fun x465 hx466 h => cE k m call113 rfl rfl rfl (c_spec_Beside fu _ _ _ (Enc.rd_agr hp4 (m.a00 (Enc.rd_lt hp4))) hx466) fun w468 e a k m => pN 3 k rfl fun a k => bsplit (!x465) (fun hb469 => ?_) (fun hb469 => ?_)
           · have h := bif_t hb469 h
             refine rB k 30 rfl hb469 fun k => pN 10 k rfl fun a k => nn (wp_cond_true (k.ev rfl) (wr (pN 1 k rfl fun a k => ?_)))
             have k := k.keep [4] rfl
             refine nn (wp_ret (rt_block (rt_then (rt_then (rt_block (rt_block (rt_then (rt_then (rt_block (rt_then ?_))))))))))
             refine fS h k m rfl rfl
           have h := bif_f hb469 h
           refine rB k 30 rfl hb469 fun k => pN 3 k rfl fun a k => oE h fun x470 hx471 h => cE k m call113 rfl rfl rfl (c_spec_Beside fu _ _ _ (Enc.rd_agr hp4 (m.a00 (Enc.rd_lt hp4))) hx471) fun w473 e a k m => pN 3 k rfl fun a k => oE h fun x474 hx475 h => cE k m call113 rfl rfl rfl (c_spec_Beside fu _ _ _ (Enc.rd_agr hp4 (m.a00 (Enc.rd_lt hp4))) hx475) fun w477 e a k m => sv k rfl (r_neb k underlying4 rfl rfl rfl) fun a k => pN 1 k rfl fun a k => nn (cI h k rfl (fun hb478 h => ?_) fun hb478 h => ?_)
           · refine wr (pN 1 k rfl fun a k => ?_)
             have k := k.keep [4] rfl
             refine nn (wp_ret (rt_block (rt_then (rt_then (rt_block (rt_block (rt_then (rt_then (rt_block (rt_then ?_))))))))))
             refine fS h k m rfl rfl
           refine wp_skip (nm_block (nm_then ?_))
           exact ⟨k.keep [0, 1, 5, 6] rfl, m.sel [] rfl (by decide), h⟩
         have h := bif_f hb464 h
         refine rB k 23 rfl hb464 fun k => pN 10 k rfl fun a k => oE h fun x479 hx480 h => cE k m call113 rfl rfl rfl (c_spec_Beside fu _ _ _ (Enc.rd_agr hp4 (m.a00 (Enc.rd_lt hp4))) hx480) fun w482 e a k m => pN 3 k rfl fun a k => oE h fun x483 hx484 h => cE k m call113 rfl rfl rfl (c_spec_Beside fu _ _ _ (Enc.rd_agr hp4 (m.a00 (Enc.rd_lt hp4))) hx484) fun w486 e a k m => sv k rfl (r_neb k underlying4 rfl rfl rfl) fun a k => pN 1 k rfl fun a k => nn (cI h k rfl (fun hb487 h => ?_) fun hb487 h => ?_)
         · refine wr (pN 1 k rfl fun a k => ?_)
           have k := k.keep [4] rfl
           refine nn (wp_ret (rt_block (rt_then (rt_then (rt_block (rt_block (rt_then (rt_then (rt_block (rt_then ?_))))))))))
           refine fS h k m rfl rfl
         refine wp_skip (nm_block (nm_then ?_))
         exact ⟨k.keep [0, 1, 5, 6] rfl, m.sel [] rfl (by decide), h⟩
       refine wp_exit (ex_then (ex_then (ex_same (nm_block (nm_then ?_)))))
       refine wp_region_lit (pN 3 k rfl fun a k => nn ?_)
       exact ⟨w64 (a329 + 1), k.keep [0, 1, 5] rfl, m.sel [] rfl (by decide), h⟩
     exact ⟨0, k.keep [0, 1, 5, 6] rfl, m.sel [] rfl (by decide), h⟩
   refine wp_exit (ex_then (ex_then (ex_same (nm_then ?_))))
   refine wr (pN 1 k rfl fun a k => nn (wp_ret (fS h k m rfl rfl)))
 exact ⟨0, k.keep [0, 1, 5] rfl, m.sel [] rfl (by decide), h⟩
theorem c_spec_l1Places (fu : Nat) {w0 : World} (n1 : Int)  {r : (List Int)}
    (h : d_spec_l1Places fu n1 = some r) :
    Calls Tryz.prog 112 #[.int .i64 n1] w0 fun e w => ∃ (v0 : Value) (G0 : List Nat), e = .returned (v0) ∧ Ext [] w0 w ∧ ow w G0 [v0] r ∧ (∀ b ∈ G0, w0.heap.size ≤ b) := by
 refine enter (vs := [_]) func112 rfl ntmps112 rfl fun a k => ?_
 have m := St.start w0
 unfold d_spec_l1Places at h
 refine wr (pN 1 k rfl fun a k => nn (wr (s_bs (cs := []) (ps := []) te29 m k rfl rfl rfl rfl rfl rfl rfl (by decide) rfl (by exact (List.forall_mem_nil _)) fun g2 w3 e5 a k m e hb4 => ?_)))
 have hf6 := ow_bx hb4 ([] : List Int) rfl rfl rfl
 refine pN 1 k rfl fun a k => nn (wp_seq (wr (pN 1 k rfl fun a k => nn (wp_block (c_loop (fun n a w => ∃ (out40 : List Int) (v41 : Value) (F42 : List Nat) (u43 : World) (i45 : Int), K 16 [(0, .int .i64 n1), (3, v41), (4, .int .i64 i45)] a ∧ St [] w0 w [(F42, u43)] ∧ ow u43 F42 [v41] out40 ∧ d_spec_l1Places_L1 fu n1 n out40 i45 = some r) ?_ ?_ fu _ _ ?_)))))
 · rintro a w ⟨_, _, _, _, _, _, _, _, h⟩
   exact nS h
 · rintro m46 a w39 ⟨out40, v41, F42, u43, i45, k, m, hf44, h⟩
   rw [d_spec_l1Places_L1_s] at h
   unfold d_spec_l1Places_L1_B at h
   refine wp_seq (wr (pN 3 k rfl fun a k => nn (cI h k rfl (fun hb47 h => ?_) fun hb47 h => ?_)))
   · refine wp_skip (nm_then ?_)
     refine wp_seq (wp_block (wp_region_lit (pN 2 k rfl fun a k => s_bs (cs := [.int .i64 i45]) (ps := [(0, .tmp 12)]) te29 m k rfl rfl rfl rfl rfl rfl rfl (by decide) rfl (by exact (List.forall_mem_cons.2 ⟨rfl, (List.forall_mem_nil _)⟩)) fun g48 w49 e51 a k m e hb50 => ?_)))
     have hf52 := ow_bx hb50 ([i45] : List Int) rfl rfl rfl
     refine oE h fun x53 hx54 h => s_appF hx54 te29 rfl m 1 hf44 (News.rd (Enc.rd_agr (Enc.ow_rd hf52) (m.a 0 rfl))) rfl rfl k rfl rfl rfl rfl rfl rfl rfl fun v55 F56 w57 a k e m hf58 => pN 1 k rfl fun a k => wpList_nil (nm_block (nm_then ?_))
     refine wp_region_lit (pN 3 k rfl fun a k => nn ?_)
     exact ⟨x53, v55, F56, w57, w64 (i45 + 1), k.keep [0, 3, 4] rfl, m.sel [1] rfl (by decide), hf58, h⟩
   refine wp_exit (ex_then (ex_then (ex_same (nm_then ?_))))
   refine wr (pN 2 k rfl fun a k => nn (wp_ret ?_))
   cases h
   exact finR1 k rfl (RV.tmp k rfl) ⟨_, F42, rfl, m.ext, (Enc.ow_agr hf44 (m.a 0 rfl)), (m.fresh 0 rfl)⟩
 exact ⟨([] : List Int), (.slice (some ⟨g2, 0, none⟩) 0 0), [g2], w3, 0, k.keep [0, 3, 4] rfl, m.sel [0] rfl (by decide), hf6, h⟩
theorem c_spec_l1Merge_R (fu : Nat) : ∀ (nr : Nat) {w0 : World} (keys1 : List Int) (places5 : List Int) (down9 : Bool) {v2 : Value} {F3 : List Nat} (hp4 : rd w0 F3 [v2] keys1) {v6 : Value} {F7 : List Nat} (hp8 : rd w0 F7 [v6] places5) {r : (List Int)} (h : d_spec_l1Merge_R fu nr keys1 places5 down9 = some r), Calls Tryz.prog 223 #[v2, v6, .bool (down9)] w0 fun e w => ∃ (v0 : Value) (G0 : List Nat), e = .returned (v0) ∧ Ext [] w0 w ∧ ow w G0 [v0] r ∧ (∀ b ∈ G0, w0.heap.size ≤ b) := by
 intro nr
 induction nr with
 | zero =>
   intros
   rename_i h
   exact nS h
 | succ nr ih =>
 intro w0 keys1 places5 down9 v2 F3 hp4 v6 F7 hp8 r h
 refine enter (vs := [_, _, _]) func223 rfl ntmps223 rfl fun a k => ?_
 have m := St.start w0
 rw [d_spec_l1Merge_Rs] at h
 unfold d_spec_l1Merge_RB at h
 refine wr (pN 1 k rfl fun a k => nn (wp_seq (wr (pN 1 k rfl fun a k => sv k rfl (r_len (α := Int) hp8 k underlying29 rfl rfl) fun a k => pN 1 k rfl fun a k => nn (cI h k rfl (fun hb10 h => ?_) fun hb10 h => ?_)))))
 · refine wr (s_bs (cs := []) (ps := []) te29 m k rfl rfl rfl rfl rfl rfl rfl (by decide) rfl (by exact (List.forall_mem_nil _)) fun g11 w12 e14 a k m e hb13 => ?_)
   have hf15 := ow_bx hb13 ([] : List Int) rfl rfl rfl
   refine pN 1 k rfl fun a k => oE h fun x16 hx17 h => s_appF hx17 te29 rfl m 0 hf15 (News.rd (Enc.rd_agr hp8 (m.a00 (Enc.rd_lt hp8)))) rfl rfl k rfl rfl rfl rfl rfl rfl rfl fun v18 F19 w20 a k e m hf21 => pN 1 k rfl fun a k => nn (wp_ret (rt_then ?_))
   cases h
   exact finR1 k rfl (RV.tmp k rfl) ⟨_, F19, rfl, m.ext, (Enc.ow_agr hf21 (m.a 0 rfl)), (m.fresh 0 rfl)⟩
 refine wp_skip (nm_then ?_)
 refine wr (pN 1 k rfl fun a k => sv k rfl (r_len (α := Int) hp8 k underlying29 rfl rfl) fun a k => pN 2 k rfl fun a k => nn (wr (pN 3 k rfl fun a k => oE h fun x22 hx23 h => s_slTo hp8 hx23 k ts29 rfl rfl rfl rfl rfl rfl fun v24 a k hf25 => pN 1 k rfl fun a k => oE h fun x27 hx28 h => s_call k call223 rfl rfl rfl rfl rfl (ih _ _ _ (Enc.rd_agr hp4 (m.a00 (Enc.rd_lt hp4))) (Enc.rd_agr hf25 (m.a00 (Enc.rd_lt hf25))) hx28) fun e29 w30 hR => ?_)))
 obtain ⟨v35, F31, rfl, e, hf32, hfr33⟩ := hR
 refine ⟨_, rfl, fun a k => ?_⟩
 have m := m.new e F31 (fun b hb => ⟨hfr33 b hb, Enc.rd_lt (Enc.ow_rd hf32) b hb⟩) (Enc.ow_nd hf32)
 refine pN 1 k rfl fun a k => nn (wr (pN 3 k rfl fun a k => oE h fun x36 hx37 h => s_slFrom hp8 hx37 k ts29 rfl rfl rfl rfl rfl rfl fun v38 a k hf39 => pN 1 k rfl fun a k => oE h fun x41 hx42 h => s_call k call223 rfl rfl rfl rfl rfl (ih _ _ _ (Enc.rd_agr hp4 (m.a00 (Enc.rd_lt hp4))) (Enc.rd_agr hf39 (m.a00 (Enc.rd_lt hf39))) hx42) fun e43 w44 hR => ?_))
 obtain ⟨v49, F45, rfl, e, hf46, hfr47⟩ := hR
 refine ⟨_, rfl, fun a k => ?_⟩
 have m := m.new e F45 (fun b hb => ⟨hfr47 b hb, Enc.rd_lt (Enc.ow_rd hf46) b hb⟩) (Enc.ow_nd hf46)
 refine pN 1 k rfl fun a k => nn (wr (s_bs (cs := []) (ps := []) te29 m k rfl rfl rfl rfl rfl rfl rfl (by decide) rfl (by exact (List.forall_mem_nil _)) fun g50 w51 e53 a k m e hb52 => ?_))
 have hf54 := ow_bx hb52 ([] : List Int) rfl rfl rfl
 refine pN 1 k rfl fun a k => nn (wr (pN 1 k rfl fun a k => ?_))
 have k := k.keep [0, 2, 8, 9, 10, 11] rfl
 refine nn (wr (pN 1 k rfl fun a k => nn (wp_seq (wp_block (c_loop (fun n a w => ∃ (out375 : List Int) (v376 : Value) (F377 : List Nat) (u378 : World) (i380 : Int) (j381 : Int), K 132 [(0, v2), (2, .bool (down9)), (8, v35), (9, v49), (10, v376), (11, .int .i64 i380), (12, .int .i64 j381)] a ∧ St [] w0 w [(F31, w30), (F45, w44), (F377, u378)] ∧ ow u378 F377 [v376] out375 ∧ d_spec_l1Merge_L1 fu keys1 down9 x27 x41 n out375 i380 j381 = some r) ?_ ?_ fu _ _ ?_)))))
 · rintro a w ⟨_, _, _, _, _, _, _, _, _, h⟩
   exact nS h
 · rintro m382 a w374 ⟨out375, v376, F377, u378, i380, j381, k, m, hf379, h⟩
   rw [d_spec_l1Merge_L1_s] at h
   unfold d_spec_l1Merge_L1_B at h
   refine c_cut (fun a w => K 132 [(0, v2), (2, .bool (down9)), (8, v35), (9, v49), (10, v376), (11, .int .i64 i380), (12, .int .i64 j381)] a ∧ St [] w0 w [(F31, w30), (F45, w44), (F377, u378)] ∧ d_spec_l1Merge_J1 fu (d_spec_l1Merge_L1 fu keys1 down9 x27 x41 m382) keys1 down9 x27 x41 out375 i380 j381 = some r) ?_ ?_
   · rintro a w385 ⟨k, m, h⟩
     unfold d_spec_l1Merge_J1 at h
     refine wp_block (wp_block (wr (pN 2 k rfl fun a k => sv k rfl (r_len (α := Int) (Enc.ow_rd hf46) k underlying29 rfl rfl) fun a k => pN 2 k rfl fun a k => nn (cI h k rfl (fun hb386 h => ?_) fun hb386 h => ?_))))
     · refine wr (pN 3 k rfl fun a k => oE h fun x387 hx388 h => sv k rfl (r_ixa (Enc.ow_rd hf32) hx388 k ts29 rfl rfl rfl) fun a k => sv k rfl (r_lde1 (Enc.ow_rd hf32) (m.a 0 rfl) hx388 0 t13 k rfl rfl rfl rfl) fun a k => s_bs (cs := [.int .i64 x387]) (ps := [(0, .tmp 63)]) te29 m k rfl rfl rfl rfl rfl rfl rfl (by decide) rfl (by exact (List.forall_mem_cons.2 ⟨rfl, (List.forall_mem_nil _)⟩)) fun g389 w390 e392 a k m e hb391 => ?_)
       have hf393 := ow_bx hb391 ([x387] : List Int) rfl rfl rfl
       refine oE h fun x394 hx395 h => s_appF hx395 te29 rfl m 3 hf379 (News.rd (Enc.rd_agr (Enc.ow_rd hf393) (m.a 0 rfl))) rfl rfl k rfl rfl rfl rfl rfl rfl rfl fun v396 F397 w398 a k e m hf399 => pN 1 k rfl fun a k => nn (wp_region_lit (pN 3 k rfl fun a k => wpList_nil (nm_block (nm_block (nm_then ?_)))))
       exact ⟨x394, v396, F397, w398, w64 (i380 + 1), j381, k.keep [0, 2, 8, 9, 10, 11, 12] rfl, m.sel [1, 2, 3] rfl (by decide), hf399, h⟩
     refine wr (pN 2 k rfl fun a k => sv k rfl (r_len (α := Int) (Enc.ow_rd hf32) k underlying29 rfl rfl) fun a k => pN 2 k rfl fun a k => nn (cI h k rfl (fun hb400 h => ?_) fun hb400 h => ?_))
     · refine wr (pN 3 k rfl fun a k => oE h fun x401 hx402 h => sv k rfl (r_ixa (Enc.ow_rd hf46) hx402 k ts29 rfl rfl rfl) fun a k => sv k rfl (r_lde1 (Enc.ow_rd hf46) (m.a 1 rfl) hx402 0 t13 k rfl rfl rfl rfl) fun a k => s_bs (cs := [.int .i64 x401]) (ps := [(0, .tmp 77)]) te29 m k rfl rfl rfl rfl rfl rfl rfl (by decide) rfl (by exact (List.forall_mem_cons.2 ⟨rfl, (List.forall_mem_nil _)⟩)) fun g403 w404 e406 a k m e hb405 => ?_)
       have hf407 := ow_bx hb405 ([x401] : List Int) rfl rfl rfl
       refine oE h fun x408 hx409 h => s_appF hx409 te29 rfl m 3 hf379 (News.rd (Enc.rd_agr (Enc.ow_rd hf407) (m.a 0 rfl))) rfl rfl k rfl rfl rfl rfl rfl rfl rfl fun v410 F411 w412 a k e m hf413 => pN 1 k rfl fun a k => nn (wp_region_lit (pN 3 k rfl fun a k => wpList_nil (nm_block (nm_block (nm_then ?_)))))
       exact ⟨x408, v410, F411, w412, i380, w64 (j381 + 1), k.keep [0, 2, 8, 9, 10, 11, 12] rfl, m.sel [1, 2, 3] rfl (by decide), hf413, h⟩
     refine wp_seq (d_go [] mixo m rfl fun w414 hMd => ?_)
     have m := hMd
     have s := Ext.refl ([] : List Nat) w414
     refine dp k 0 rfl (by kernel_rfl) rfl s (fun _ _ _ => id) rfl fun a k => dp k 1 rfl (by kernel_rfl) rfl s (fun _ _ _ => id) rfl fun a k => dp k 2 rfl (by kernel_rfl) rfl s (fun _ _ _ => id) rfl fun a k => oE h fun x415 hx416 h => dt k 3 rfl (by kernel_rfl) rfl s (fun _ _ _ => id) (fun w s => r_ixa (Enc.ow_rd hf46) hx416 k ts29 rfl rfl rfl) fun a k => dt k 4 rfl (by kernel_rfl) rfl s (fun _ _ _ => id) (fun w s => r_lde1 (Enc.ow_rd hf46) ((hMd.step s).a 1 rfl) hx416 0 t13 k rfl rfl rfl rfl) fun a k => oE h fun x417 hx418 h => dt k 5 rfl (by kernel_rfl) rfl s (fun _ _ _ => id) (fun w s => r_ixa hp4 hx418 k ts29 rfl rfl rfl) fun a k => dt k 6 rfl (by kernel_rfl) rfl s (fun _ _ _ => id) (fun w s => r_lde1 hp4 ((hMd.step s).a00 (Enc.rd_lt hp4)) hx418 0 t13 k rfl rfl rfl rfl) fun a k => ?_
     refine dp k 7 rfl (by kernel_rfl) rfl s (fun _ _ _ => id) rfl fun a k => dp k 8 rfl (by kernel_rfl) rfl s (fun _ _ _ => id) rfl fun a k => dp k 9 rfl (by kernel_rfl) rfl s (fun _ _ _ => id) rfl fun a k => oE h fun x419 hx420 h => dt k 10 rfl (by kernel_rfl) rfl s (fun _ _ _ => id) (fun w s => r_ixa (Enc.ow_rd hf32) hx420 k ts29 rfl rfl rfl) fun a k => dt k 11 rfl (by kernel_rfl) rfl s (fun _ _ _ => id) (fun w s => r_lde1 (Enc.ow_rd hf32) ((hMd.step s).a 0 rfl) hx420 0 t13 k rfl rfl rfl rfl) fun a k => oE h fun x421 hx422 h => dt k 12 rfl (by kernel_rfl) rfl s (fun _ _ _ => id) (fun w s => r_ixa hp4 hx422 k ts29 rfl rfl rfl) fun a k => dt k 13 rfl (by kernel_rfl) rfl s (fun _ _ _ => id) (fun w s => r_lde1 hp4 ((hMd.step s).a00 (Enc.rd_lt hp4)) hx422 0 t13 k rfl rfl rfl rfl) fun a k => ?_
     refine dp k 14 rfl (by kernel_rfl) rfl s (fun _ _ _ => id) rfl fun a k => dp k 15 rfl (by kernel_rfl) rfl s (fun _ _ _ => id) rfl fun a k => bsplit (decide (x417 < x421)) (fun hb423 => ?_) (fun hb423 => ?_)
     · have h := bif_t hb423 h
       refine rB k 98 rfl hb423 fun k => dp k 16 rfl (by kernel_rfl) rfl s (fun _ _ _ => id) rfl fun a k => dp k 17 rfl (by kernel_rfl) rfl s (fun _ _ _ => id) rfl fun a k => dp k 18 rfl (by kernel_rfl) rfl s (fun _ _ _ => id) rfl fun a k => dp k 19 rfl (by kernel_rfl) rfl s (fun _ _ _ => id) rfl fun a k => bsplit (!down9) (fun hb424 => ?_) (fun hb424 => ?_)
       · have h := bif_t hb424 h
         refine rB k 102 rfl hb424 fun k => ds k 20 rfl (by kernel_rfl) rfl s (fun _ _ _ => id) fun a k => ds k 21 rfl (by kernel_rfl) rfl s (fun _ _ _ => id) fun a k => ds k 22 rfl (by kernel_rfl) rfl s (fun _ _ _ => id) fun a k => ds k 23 rfl (by kernel_rfl) rfl s (fun _ _ _ => id) fun a k => ds k 24 rfl (by kernel_rfl) rfl s (fun _ _ _ => id) fun a k => ds k 25 rfl (by kernel_rfl) rfl s (fun _ _ _ => id) fun a k => ds k 26 rfl (by kernel_rfl) rfl s (fun _ _ _ => id) fun a k => ds k 27 rfl (by kernel_rfl) rfl s (fun _ _ _ => id) fun a k => ds k 28 rfl (by kernel_rfl) rfl s (fun _ _ _ => id) fun a k => ds k 29 rfl (by kernel_rfl) rfl s (fun _ _ _ => id) fun a k => ds k 30 rfl (by kernel_rfl) rfl s (fun _ _ _ => id) fun a k => ds k 31 rfl (by kernel_rfl) rfl s (fun _ _ _ => id) fun a k => ?_
         refine ds k 32 rfl (by kernel_rfl) rfl s (fun _ _ _ => id) fun a k => ds k 33 rfl (by kernel_rfl) rfl s (fun _ _ _ => id) fun a k => ds k 34 rfl (by kernel_rfl) rfl s (fun _ _ _ => id) fun a k => ds k 35 rfl (by kernel_rfl) rfl s (fun _ _ _ => id) fun a k => ds k 36 rfl (by kernel_rfl) rfl s (fun _ _ _ => id) fun a k => ds k 37 rfl (by kernel_rfl) rfl s (fun _ _ _ => id) fun a k => dp k 38 rfl (by kernel_rfl) rfl s (fun _ _ _ => id) rfl fun a k => dp k 39 rfl (by kernel_rfl) rfl s (fun _ _ _ => id) rfl fun a k => d_done (by kernel_rfl) ?_
         have k := k.keep [0, 2, 8, 9, 10, 11, 12, 82] rfl
         refine (nm_then ?_)
         refine wp_cond_true (k.ev rfl) (wr (pN 3 k rfl fun a k => oE h fun x425 hx426 h => sv k rfl (r_ixa (Enc.ow_rd hf46) hx416 k ts29 rfl rfl rfl) fun a k => sv k rfl (r_lde1 (Enc.ow_rd hf46) (m.a 1 rfl) hx416 0 t13 k rfl rfl rfl rfl) fun a k => s_bs (cs := [.int .i64 x415]) (ps := [(0, .tmp 126)]) te29 m k rfl rfl rfl rfl rfl rfl rfl (by decide) rfl (by exact (List.forall_mem_cons.2 ⟨rfl, (List.forall_mem_nil _)⟩)) fun g427 w428 e430 a k m e hb429 => ?_))
         have hf431 := ow_bx hb429 ([x415] : List Int) rfl rfl rfl
         refine oE h fun x432 hx433 h => s_appF hx433 te29 rfl m 3 hf379 (News.rd (Enc.rd_agr (Enc.ow_rd hf431) (m.a 0 rfl))) rfl rfl k rfl rfl rfl rfl rfl rfl rfl fun v434 F435 w436 a k e m hf437 => pN 1 k rfl fun a k => nn (wp_region_lit (pN 3 k rfl fun a k => wpList_nil (nm_block (nm_block (nm_then ?_)))))
         exact ⟨x432, v434, F435, w436, i380, w64 (j381 + 1), k.keep [0, 2, 8, 9, 10, 11, 12] rfl, m.sel [1, 2, 3] rfl (by decide), hf437, h⟩
       have h := bif_f hb424 h
       refine rB k 102 rfl hb424 fun k => dp k 20 rfl (by kernel_rfl) rfl s (fun _ _ _ => id) rfl fun a k => dp k 21 rfl (by kernel_rfl) rfl s (fun _ _ _ => id) rfl fun a k => dp k 22 rfl (by kernel_rfl) rfl s (fun _ _ _ => id) rfl fun a k => oE h fun x438 hx439 h => dt k 23 rfl (by kernel_rfl) rfl s (fun _ _ _ => id) (fun w s => r_ixa (Enc.ow_rd hf46) hx416 k ts29 rfl rfl rfl) fun a k => dt k 24 rfl (by kernel_rfl) rfl s (fun _ _ _ => id) (fun w s => r_lde1 (Enc.ow_rd hf46) ((hMd.step s).a 1 rfl) hx416 0 t13 k rfl rfl rfl rfl) fun a k => oE h fun x440 hx441 h => dt k 25 rfl (by kernel_rfl) rfl s (fun _ _ _ => id) (fun w s => r_ixa hp4 hx418 k ts29 rfl rfl rfl) fun a k => dt k 26 rfl (by kernel_rfl) rfl s (fun _ _ _ => id) (fun w s => r_lde1 hp4 ((hMd.step s).a00 (Enc.rd_lt hp4)) hx418 0 t13 k rfl rfl rfl rfl) fun a k => ?_
       refine dp k 27 rfl (by kernel_rfl) rfl s (fun _ _ _ => id) rfl fun a k => dp k 28 rfl (by kernel_rfl) rfl s (fun _ _ _ => id) rfl fun a k => dp k 29 rfl (by kernel_rfl) rfl s (fun _ _ _ => id) rfl fun a k => oE h fun x442 hx443 h => dt k 30 rfl (by kernel_rfl) rfl s (fun _ _ _ => id) (fun w s => r_ixa (Enc.ow_rd hf32) hx420 k ts29 rfl rfl rfl) fun a k => dt k 31 rfl (by kernel_rfl) rfl s (fun _ _ _ => id) (fun w s => r_lde1 (Enc.ow_rd hf32) ((hMd.step s).a 0 rfl) hx420 0 t13 k rfl rfl rfl rfl) fun a k => oE h fun x444 hx445 h => dt k 32 rfl (by kernel_rfl) rfl s (fun _ _ _ => id) (fun w s => r_ixa hp4 hx422 k ts29 rfl rfl rfl) fun a k => dt k 33 rfl (by kernel_rfl) rfl s (fun _ _ _ => id) (fun w s => r_lde1 hp4 ((hMd.step s).a00 (Enc.rd_lt hp4)) hx422 0 t13 k rfl rfl rfl rfl) fun a k => ?_
       refine dp k 34 rfl (by kernel_rfl) rfl s (fun _ _ _ => id) rfl fun a k => dp k 35 rfl (by kernel_rfl) rfl s (fun _ _ _ => id) rfl fun a k => bsplit (decide (x417 > x421)) (fun hb446 => ?_) (fun hb446 => ?_)
       · have h := bif_t hb446 h
         refine rB k 118 rfl hb446 fun k => dp k 36 rfl (by kernel_rfl) rfl s (fun _ _ _ => id) rfl fun a k => dp k 37 rfl (by kernel_rfl) rfl s (fun _ _ _ => id) rfl fun a k => dp k 38 rfl (by kernel_rfl) rfl s (fun _ _ _ => id) rfl fun a k => dp k 39 rfl (by kernel_rfl) rfl s (fun _ _ _ => id) rfl fun a k => d_done (by kernel_rfl) ?_
         have k := k.keep [0, 2, 8, 9, 10, 11, 12, 82] rfl
         refine (nm_then ?_)
         refine cI h k rfl (fun hb447 h => ?_) fun hb447 h => ?_
         · refine wr (pN 3 k rfl fun a k => oE h fun x448 hx449 h => sv k rfl (r_ixa (Enc.ow_rd hf46) hx416 k ts29 rfl rfl rfl) fun a k => sv k rfl (r_lde1 (Enc.ow_rd hf46) (m.a 1 rfl) hx416 0 t13 k rfl rfl rfl rfl) fun a k => s_bs (cs := [.int .i64 x415]) (ps := [(0, .tmp 126)]) te29 m k rfl rfl rfl rfl rfl rfl rfl (by decide) rfl (by exact (List.forall_mem_cons.2 ⟨rfl, (List.forall_mem_nil _)⟩)) fun g450 w451 e453 a k m e hb452 => ?_)
           have hf454 := ow_bx hb452 ([x415] : List Int) rfl rfl rfl
           refine oE h fun x455 hx456 h => s_appF hx456 te29 rfl m 3 hf379 (News.rd (Enc.rd_agr (Enc.ow_rd hf454) (m.a 0 rfl))) rfl rfl k rfl rfl rfl rfl rfl rfl rfl fun v457 F458 w459 a k e m hf460 => pN 1 k rfl fun a k => nn (wp_region_lit (pN 3 k rfl fun a k => wpList_nil (nm_block (nm_block (nm_then ?_)))))
           exact ⟨x455, v457, F458, w459, i380, w64 (j381 + 1), k.keep [0, 2, 8, 9, 10, 11, 12] rfl, m.sel [1, 2, 3] rfl (by decide), hf460, h⟩
         refine wr (pN 3 k rfl fun a k => oE h fun x461 hx462 h => sv k rfl (r_ixa (Enc.ow_rd hf32) hx420 k ts29 rfl rfl rfl) fun a k => sv k rfl (r_lde1 (Enc.ow_rd hf32) (m.a 0 rfl) hx420 0 t13 k rfl rfl rfl rfl) fun a k => s_bs (cs := [.int .i64 x419]) (ps := [(0, .tmp 49)]) te29 m k rfl rfl rfl rfl rfl rfl rfl (by decide) rfl (by exact (List.forall_mem_cons.2 ⟨rfl, (List.forall_mem_nil _)⟩)) fun g463 w464 e466 a k m e hb465 => ?_)
         have hf467 := ow_bx hb465 ([x419] : List Int) rfl rfl rfl
         refine oE h fun x468 hx469 h => s_appF hx469 te29 rfl m 3 hf379 (News.rd (Enc.rd_agr (Enc.ow_rd hf467) (m.a 0 rfl))) rfl rfl k rfl rfl rfl rfl rfl rfl rfl fun v470 F471 w472 a k e m hf473 => pN 1 k rfl fun a k => nn (wp_region_lit (pN 3 k rfl fun a k => wpList_nil (nm_block (nm_block (nm_then ?_)))))
         exact ⟨x468, v470, F471, w472, w64 (i380 + 1), j381, k.keep [0, 2, 8, 9, 10, 11, 12] rfl, m.sel [1, 2, 3] rfl (by decide), hf473, h⟩
       have h := bif_f hb446 h
       refine rB k 118 rfl hb446 fun k => ds k 36 rfl (by kernel_rfl) rfl s (fun _ _ _ => id) fun a k => dp k 37 rfl (by kernel_rfl) rfl s (fun _ _ _ => id) rfl fun a k => dp k 38 rfl (by kernel_rfl) rfl s (fun _ _ _ => id) rfl fun a k => dp k 39 rfl (by kernel_rfl) rfl s (fun _ _ _ => id) rfl fun a k => d_done (by kernel_rfl) ?_
       have k := k.keep [0, 2, 8, 9, 10, 11, 12, 82] rfl
       refine (nm_then ?_)
       refine wp_cond_false (k.ev rfl) (wr (pN 3 k rfl fun a k => oE h fun x474 hx475 h => sv k rfl (r_ixa (Enc.ow_rd hf32) hx420 k ts29 rfl rfl rfl) fun a k => sv k rfl (r_lde1 (Enc.ow_rd hf32) (m.a 0 rfl) hx420 0 t13 k rfl rfl rfl rfl) fun a k => s_bs (cs := [.int .i64 x419]) (ps := [(0, .tmp 49)]) te29 m k rfl rfl rfl rfl rfl rfl rfl (by decide) rfl (by exact (List.forall_mem_cons.2 ⟨rfl, (List.forall_mem_nil _)⟩)) fun g476 w477 e479 a k m e hb478 => ?_))
       have hf480 := ow_bx hb478 ([x419] : List Int) rfl rfl rfl
       refine oE h fun x481 hx482 h => s_appF hx482 te29 rfl m 3 hf379 (News.rd (Enc.rd_agr (Enc.ow_rd hf480) (m.a 0 rfl))) rfl rfl k rfl rfl rfl rfl rfl rfl rfl fun v483 F484 w485 a k e m hf486 => pN 1 k rfl fun a k => nn (wp_region_lit (pN 3 k rfl fun a k => wpList_nil (nm_block (nm_block (nm_then ?_)))))
       exact ⟨x481, v483, F484, w485, w64 (i380 + 1), j381, k.keep [0, 2, 8, 9, 10, 11, 12] rfl, m.sel [1, 2, 3] rfl (by decide), hf486, h⟩
     have h := bif_f hb423 h
     refine rB k 98 rfl hb423 fun k => ds k 16 rfl (by kernel_rfl) rfl s (fun _ _ _ => id) fun a k => ds k 17 rfl (by kernel_rfl) rfl s (fun _ _ _ => id) fun a k => dp k 18 rfl (by kernel_rfl) rfl s (fun _ _ _ => id) rfl fun a k => dp k 19 rfl (by kernel_rfl) rfl s (fun _ _ _ => id) rfl fun a k => dp k 20 rfl (by kernel_rfl) rfl s (fun _ _ _ => id) rfl fun a k => dp k 21 rfl (by kernel_rfl) rfl s (fun _ _ _ => id) rfl fun a k => dp k 22 rfl (by kernel_rfl) rfl s (fun _ _ _ => id) rfl fun a k => oE h fun x487 hx488 h => dt k 23 rfl (by kernel_rfl) rfl s (fun _ _ _ => id) (fun w s => r_ixa (Enc.ow_rd hf46) hx416 k ts29 rfl rfl rfl) fun a k => dt k 24 rfl (by kernel_rfl) rfl s (fun _ _ _ => id) (fun w s => r_lde1 (Enc.ow_rd hf46) ((hMd.step s).a 1 rfl) hx416 0 t13 k rfl rfl rfl rfl) fun a k => oE h fun x489 hx490 h => ?_
     refine dt k 25 rfl (by kernel_rfl) rfl s (fun _ _ _ => id) (fun w s => r_ixa hp4 hx418 k ts29 rfl rfl rfl) fun a k => dt k 26 rfl (by kernel_rfl) rfl s (fun _ _ _ => id) (fun w s => r_lde1 hp4 ((hMd.step s).a00 (Enc.rd_lt hp4)) hx418 0 t13 k rfl rfl rfl rfl) fun a k => dp k 27 rfl (by kernel_rfl) rfl s (fun _ _ _ => id) rfl fun a k => dp k 28 rfl (by kernel_rfl) rfl s (fun _ _ _ => id) rfl fun a k => dp k 29 rfl (by kernel_rfl) rfl s (fun _ _ _ => id) rfl fun a k => oE h fun x491 hx492 h => dt k 30 rfl (by kernel_rfl) rfl s (fun _ _ _ => id) (fun w s => r_ixa (Enc.ow_rd hf32) hx420 k ts29 rfl rfl rfl) fun a k => dt k 31 rfl (by kernel_rfl) rfl s (fun _ _ _ => id) (fun w s => r_lde1 (Enc.ow_rd hf32) ((hMd.step s).a 0 rfl) hx420 0 t13 k rfl rfl rfl rfl) fun a k => oE h fun x493 hx494 h => ?_
     refine dt k 32 rfl (by kernel_rfl) rfl s (fun _ _ _ => id) (fun w s => r_ixa hp4 hx422 k ts29 rfl rfl rfl) fun a k => dt k 33 rfl (by kernel_rfl) rfl s (fun _ _ _ => id) (fun w s => r_lde1 hp4 ((hMd.step s).a00 (Enc.rd_lt hp4)) hx422 0 t13 k rfl rfl rfl rfl) fun a k => dp k 34 rfl (by kernel_rfl) rfl s (fun _ _ _ => id) rfl fun a k => dp k 35 rfl (by kernel_rfl) rfl s (fun _ _ _ => id) rfl fun a k => bsplit (decide (x417 > x421)) (fun hb495 => ?_) (fun hb495 => ?_)
     · have h := bif_t hb495 h
       refine rB k 118 rfl hb495 fun k => dp k 36 rfl (by kernel_rfl) rfl s (fun _ _ _ => id) rfl fun a k => dp k 37 rfl (by kernel_rfl) rfl s (fun _ _ _ => id) rfl fun a k => dp k 38 rfl (by kernel_rfl) rfl s (fun _ _ _ => id) rfl fun a k => dp k 39 rfl (by kernel_rfl) rfl s (fun _ _ _ => id) rfl fun a k => d_done (by kernel_rfl) ?_
       have k := k.keep [0, 2, 8, 9, 10, 11, 12, 82] rfl
       refine (nm_then ?_)
       refine cI h k rfl (fun hb496 h => ?_) fun hb496 h => ?_
       · refine wr (pN 3 k rfl fun a k => oE h fun x497 hx498 h => sv k rfl (r_ixa (Enc.ow_rd hf46) hx416 k ts29 rfl rfl rfl) fun a k => sv k rfl (r_lde1 (Enc.ow_rd hf46) (m.a 1 rfl) hx416 0 t13 k rfl rfl rfl rfl) fun a k => s_bs (cs := [.int .i64 x415]) (ps := [(0, .tmp 126)]) te29 m k rfl rfl rfl rfl rfl rfl rfl (by decide) rfl (by exact (List.forall_mem_cons.2 ⟨rfl, (List.forall_mem_nil _)⟩)) fun g499 w500 e502 a k m e hb501 => ?_)
         have hf503 := ow_bx hb501 ([x415] : List Int) rfl rfl rfl
         refine oE h fun x504 hx505 h => s_appF hx505 te29 rfl m 3 hf379 (News.rd (Enc.rd_agr (Enc.ow_rd hf503) (m.a 0 rfl))) rfl rfl k rfl rfl rfl rfl rfl rfl rfl fun v506 F507 w508 a k e m hf509 => pN 1 k rfl fun a k => nn (wp_region_lit (pN 3 k rfl fun a k => wpList_nil (nm_block (nm_block (nm_then ?_)))))
         exact ⟨x504, v506, F507, w508, i380, w64 (j381 + 1), k.keep [0, 2, 8, 9, 10, 11, 12] rfl, m.sel [1, 2, 3] rfl (by decide), hf509, h⟩
       refine wr (pN 3 k rfl fun a k => oE h fun x510 hx511 h => sv k rfl (r_ixa (Enc.ow_rd hf32) hx420 k ts29 rfl rfl rfl) fun a k => sv k rfl (r_lde1 (Enc.ow_rd hf32) (m.a 0 rfl) hx420 0 t13 k rfl rfl rfl rfl) fun a k => s_bs (cs := [.int .i64 x419]) (ps := [(0, .tmp 49)]) te29 m k rfl rfl rfl rfl rfl rfl rfl (by decide) rfl (by exact (List.forall_mem_cons.2 ⟨rfl, (List.forall_mem_nil _)⟩)) fun g512 w513 e515 a k m e hb514 => ?_)
       have hf516 := ow_bx hb514 ([x419] : List Int) rfl rfl rfl
       refine oE h fun x517 hx518 h => s_appF hx518 te29 rfl m 3 hf379 (News.rd (Enc.rd_agr (Enc.ow_rd hf516) (m.a 0 rfl))) rfl rfl k rfl rfl rfl rfl rfl rfl rfl fun v519 F520 w521 a k e m hf522 => pN 1 k rfl fun a k => nn (wp_region_lit (pN 3 k rfl fun a k => wpList_nil (nm_block (nm_block (nm_then ?_)))))
       exact ⟨x517, v519, F520, w521, w64 (i380 + 1), j381, k.keep [0, 2, 8, 9, 10, 11, 12] rfl, m.sel [1, 2, 3] rfl (by decide), hf522, h⟩
     have h := bif_f hb495 h
     refine rB k 118 rfl hb495 fun k => ds k 36 rfl (by kernel_rfl) rfl s (fun _ _ _ => id) fun a k => dp k 37 rfl (by kernel_rfl) rfl s (fun _ _ _ => id) rfl fun a k => dp k 38 rfl (by kernel_rfl) rfl s (fun _ _ _ => id) rfl fun a k => dp k 39 rfl (by kernel_rfl) rfl s (fun _ _ _ => id) rfl fun a k => d_done (by kernel_rfl) ?_
     have k := k.keep [0, 2, 8, 9, 10, 11, 12, 82] rfl
     refine (nm_then ?_)
     refine wp_cond_false (k.ev rfl) (wr (pN 3 k rfl fun a k => oE h fun x523 hx524 h => sv k rfl (r_ixa (Enc.ow_rd hf32) hx420 k ts29 rfl rfl rfl) fun a k => sv k rfl (r_lde1 (Enc.ow_rd hf32) (m.a 0 rfl) hx420 0 t13 k rfl rfl rfl rfl) fun a k => s_bs (cs := [.int .i64 x419]) (ps := [(0, .tmp 49)]) te29 m k rfl rfl rfl rfl rfl rfl rfl (by decide) rfl (by exact (List.forall_mem_cons.2 ⟨rfl, (List.forall_mem_nil _)⟩)) fun g525 w526 e528 a k m e hb527 => ?_))
     have hf529 := ow_bx hb527 ([x419] : List Int) rfl rfl rfl
     refine oE h fun x530 hx531 h => s_appF hx531 te29 rfl m 3 hf379 (News.rd (Enc.rd_agr (Enc.ow_rd hf529) (m.a 0 rfl))) rfl rfl k rfl rfl rfl rfl rfl rfl rfl fun v532 F533 w534 a k e m hf535 => pN 1 k rfl fun a k => nn (wp_region_lit (pN 3 k rfl fun a k => wpList_nil (nm_block (nm_block (nm_then ?_)))))
     exact ⟨x530, v532, F533, w534, w64 (i380 + 1), j381, k.keep [0, 2, 8, 9, 10, 11, 12] rfl, m.sel [1, 2, 3] rfl (by decide), hf535, h⟩
   refine wr (pN 2 k rfl fun a k => sv k rfl (r_len (α := Int) (Enc.ow_rd hf32) k underlying29 rfl rfl) fun a k => pN 2 k rfl fun a k => bsplit (decide (i380 < ((x27.length : Int)))) (fun hb536 => ?_) (fun hb536 => ?_))
   · have h := bif_t hb536 h
     refine rB k 39 rfl hb536 fun k => pN 5 k rfl fun a k => nn (wp_cond_true (k.ev rfl) (wp_skip (nm_then ?_)))
     exact ⟨k.keep [0, 2, 8, 9, 10, 11, 12] rfl, m.sel [0, 1, 2] rfl (by decide), h⟩
   have h := bif_f hb536 h
   refine rB k 39 rfl hb536 fun k => pN 2 k rfl fun a k => sv k rfl (r_len (α := Int) (Enc.ow_rd hf46) k underlying29 rfl rfl) fun a k => pN 2 k rfl fun a k => nn (cI h k rfl (fun hb537 h => ?_) fun hb537 h => ?_)
   · refine wp_skip (nm_then ?_)
     exact ⟨k.keep [0, 2, 8, 9, 10, 11, 12] rfl, m.sel [0, 1, 2] rfl (by decide), h⟩
   refine wp_exit (ex_then (ex_then (ex_same (nm_then ?_))))
   refine wr (pN 2 k rfl fun a k => nn (wp_ret ?_))
   cases h
   exact finR1 k rfl (RV.tmp k rfl) ⟨_, F377, rfl, m.ext, (Enc.ow_agr hf379 (m.a 2 rfl)), (m.fresh 2 rfl)⟩
 exact ⟨([] : List Int), (.slice (some ⟨g50, 0, none⟩) 0 0), [g50], w51, 0, 0, k.keep [0, 2, 8, 9, 10, 11, 12] rfl, m.sel [2, 1, 0] rfl (by decide), hf54, h⟩
theorem c_spec_l1Merge (fu : Nat) {w0 : World} (keys1 : List Int) (places5 : List Int) (down9 : Bool) {v2 : Value} {F3 : List Nat} (hp4 : rd w0 F3 [v2] keys1) {v6 : Value} {F7 : List Nat} (hp8 : rd w0 F7 [v6] places5) {r : (List Int)}
    (h : d_spec_l1Merge fu keys1 places5 down9 = some r) : Calls Tryz.prog 223 #[v2, v6, .bool (down9)] w0 fun e w => ∃ (v0 : Value) (G0 : List Nat), e = .returned (v0) ∧ Ext [] w0 w ∧ ow w G0 [v0] r ∧ (∀ b ∈ G0, w0.heap.size ≤ b) :=
  c_spec_l1Merge_R fu fu keys1 places5 down9 hp4 hp8 h

theorem c_spec_SortUp (fu : Nat) {w0 : World} (keys1 : List Int) {v2 : Value} {F3 : List Nat} (hp4 : rd w0 F3 [v2] keys1) {r : (List Int)}
    (h : d_spec_SortUp fu keys1 = some r) :
    Calls Tryz.prog 198 #[v2] w0 fun e w => ∃ (v0 : Value) (G0 : List Nat), e = .returned (v0) ∧ Ext [] w0 w ∧ ow w G0 [v0] r ∧ (∀ b ∈ G0, w0.heap.size ≤ b) := by
 refine enter (vs := [_]) func198 rfl ntmps198 rfl fun a k => ?_
 have m := St.start w0
 unfold d_spec_SortUp at h
 refine wr (pN 1 k rfl fun a k => nn (wr (pN 2 k rfl fun a k => sv k rfl (r_len (α := Int) hp4 k underlying29 rfl rfl) fun a k => oE h fun x5 hx6 h => s_call k call112 rfl rfl rfl rfl rfl (c_spec_l1Places fu _  hx6) fun e7 w8 hR => ?_)))
 obtain ⟨v13, F9, rfl, e, hf10, hfr11⟩ := hR
 refine ⟨_, rfl, fun a k => ?_⟩
 have m := m.new e F9 (fun b hb => ⟨hfr11 b hb, Enc.rd_lt (Enc.ow_rd hf10) b hb⟩) (Enc.ow_nd hf10)
 refine oE h fun x14 hx15 h => s_call k call223 rfl rfl rfl rfl rfl (c_spec_l1Merge fu _ _ _ (Enc.rd_agr hp4 (m.a00 (Enc.rd_lt hp4))) (Enc.rd_agr (Enc.ow_rd hf10) (m.a 0 rfl)) hx15) fun e16 w17 hR => ?_
 obtain ⟨v22, F18, rfl, e, hf19, hfr20⟩ := hR
 refine ⟨_, rfl, fun a k => ?_⟩
 have m := m.new e F18 (fun b hb => ⟨hfr20 b hb, Enc.rd_lt (Enc.ow_rd hf19) b hb⟩) (Enc.ow_nd hf19)
 refine pN 1 k rfl fun a k => nn (wp_ret ?_)
 cases h
 exact finR1 k rfl (RV.tmp k rfl) ⟨_, F18, rfl, m.ext, (Enc.ow_agr hf19 (m.a 0 rfl)), (m.fresh 0 rfl)⟩
theorem c_spec_l5Sides (fu : Nat) {w0 : World} (wv1 : Int) (h2 : Int) (d3 : Int)  {r : (List Int)}
    (h : d_spec_l5Sides fu wv1 h2 d3 = some r) :
    Calls Tryz.prog 178 #[.int .i64 wv1, .int .i64 h2, .int .i64 d3] w0 fun e w => ∃ (v0 : Value) (G0 : List Nat), e = .returned (v0) ∧ Ext [] w0 w ∧ ow w G0 [v0] r ∧ (∀ b ∈ G0, w0.heap.size ≤ b) := by
 refine enter (vs := [_, _, _]) func178 rfl ntmps178 rfl fun a k => ?_
 have m := St.start w0
 unfold d_spec_l5Sides at h
 refine wr (pN 1 k rfl fun a k => nn (wr (pN 3 k rfl fun a k => s_bs (cs := [.int .i64 wv1, .int .i64 h2, .int .i64 d3]) (ps := [(0, .tmp 9), (1, .tmp 10), (2, .tmp 11)]) te29 m k rfl rfl rfl rfl rfl rfl rfl (by decide) rfl (by exact (List.forall_mem_cons.2 ⟨rfl, (List.forall_mem_cons.2 ⟨rfl, (List.forall_mem_cons.2 ⟨rfl, (List.forall_mem_nil _)⟩)⟩)⟩)) fun g4 w5 e7 a k m e hb6 => ?_)))
 have hf8 := ow_bx hb6 ([wv1, h2, d3] : List Int) rfl rfl rfl
 refine pN 1 k rfl fun a k => nn (wr (pN 1 k rfl fun a k => oE h fun x9 hx10 h => s_call k call198 rfl rfl rfl rfl rfl (c_spec_SortUp fu _ (Enc.rd_agr (Enc.ow_rd hf8) (m.a 0 rfl)) hx10) fun e11 w12 hR => ?_))
 obtain ⟨v17, F13, rfl, e, hf14, hfr15⟩ := hR
 refine ⟨_, rfl, fun a k => ?_⟩
 have m := m.new e F13 (fun b hb => ⟨hfr15 b hb, Enc.rd_lt (Enc.ow_rd hf14) b hb⟩) (Enc.ow_nd hf14)
 refine pN 1 k rfl fun a k => nn (wp_seq (d_go [] mixo m rfl fun w18 hMd => ?_))
 have m := hMd
 have s := Ext.refl ([] : List Nat) w18
 refine dp k 0 rfl (by kernel_rfl) rfl s (fun _ _ _ => id) rfl fun a k => dp k 1 rfl (by kernel_rfl) rfl s (fun _ _ _ => id) rfl fun a k => oE h fun x19 hx20 h => dt k 2 rfl (by kernel_rfl) rfl s (fun _ _ _ => id) (fun w s => r_ixa (Enc.ow_rd hf14) hx20 k ts29 rfl rfl rfl) fun a k => dt k 3 rfl (by kernel_rfl) rfl s (fun _ _ _ => id) (fun w s => r_lde1 (Enc.ow_rd hf14) ((hMd.step s).a 0 rfl) hx20 0 t13 k rfl rfl rfl rfl) fun a k => oE h fun x21 hx22 h => dt k 4 rfl (by kernel_rfl) rfl s (fun _ _ _ => id) (fun w s => r_ixa (Enc.ow_rd hf8) hx22 k ts29 rfl rfl rfl) fun a k => dt k 5 rfl (by kernel_rfl) rfl s (fun _ _ _ => id) (fun w s => r_lde1 (Enc.ow_rd hf8) ((hMd.step s).a 1 rfl) hx22 0 t13 k rfl rfl rfl rfl) fun a k => dp k 6 rfl (by kernel_rfl) rfl s (fun _ _ _ => id) rfl fun a k => ?_
 refine dp k 7 rfl (by kernel_rfl) rfl s (fun _ _ _ => id) rfl fun a k => oE h fun x23 hx24 h => dt k 8 rfl (by kernel_rfl) rfl s (fun _ _ _ => id) (fun w s => r_ixa (Enc.ow_rd hf14) hx24 k ts29 rfl rfl rfl) fun a k => dt k 9 rfl (by kernel_rfl) rfl s (fun _ _ _ => id) (fun w s => r_lde1 (Enc.ow_rd hf14) ((hMd.step s).a 0 rfl) hx24 0 t13 k rfl rfl rfl rfl) fun a k => oE h fun x25 hx26 h => dt k 10 rfl (by kernel_rfl) rfl s (fun _ _ _ => id) (fun w s => r_ixa (Enc.ow_rd hf8) hx26 k ts29 rfl rfl rfl) fun a k => dt k 11 rfl (by kernel_rfl) rfl s (fun _ _ _ => id) (fun w s => r_lde1 (Enc.ow_rd hf8) ((hMd.step s).a 1 rfl) hx26 0 t13 k rfl rfl rfl rfl) fun a k => dp k 12 rfl (by kernel_rfl) rfl s (fun _ _ _ => id) rfl fun a k => dp k 13 rfl (by kernel_rfl) rfl s (fun _ _ _ => id) rfl fun a k => oE h fun x27 hx28 h => ?_
 refine dt k 14 rfl (by kernel_rfl) rfl s (fun _ _ _ => id) (fun w s => r_ixa (Enc.ow_rd hf14) hx28 k ts29 rfl rfl rfl) fun a k => dt k 15 rfl (by kernel_rfl) rfl s (fun _ _ _ => id) (fun w s => r_lde1 (Enc.ow_rd hf14) ((hMd.step s).a 0 rfl) hx28 0 t13 k rfl rfl rfl rfl) fun a k => oE h fun x29 hx30 h => dt k 16 rfl (by kernel_rfl) rfl s (fun _ _ _ => id) (fun w s => r_ixa (Enc.ow_rd hf8) hx30 k ts29 rfl rfl rfl) fun a k => dt k 17 rfl (by kernel_rfl) rfl s (fun _ _ _ => id) (fun w s => r_lde1 (Enc.ow_rd hf8) ((hMd.step s).a 1 rfl) hx30 0 t13 k rfl rfl rfl rfl) fun a k => d_one 18 (by kernel_rfl) rfl ?_
 refine s_bsN (cs := [.int .i64 x21, .int .i64 x25, .int .i64 x29]) (ps := [(0, .tmp 20), (1, .tmp 26), (2, .tmp 32)]) te29 m k rfl rfl rfl rfl rfl rfl rfl (by decide) rfl (by exact (List.forall_mem_cons.2 ⟨rfl, (List.forall_mem_cons.2 ⟨rfl, (List.forall_mem_cons.2 ⟨rfl, (List.forall_mem_nil _)⟩)⟩)⟩)) fun g31 w32 e34 a k m e hb33 hgn35 => ?_
 have hlo37 := lo1 (Nat.le_trans s.size hgn35)
 have hf36 := ow_bx hb33 ([x21, x25, x29] : List Int) rfl rfl rfl
 have s := s.trans e (by simp)
 refine wpList_nil ⟨s, ?_⟩
 refine dp k 19 rfl (by kernel_rfl) rfl s (fun _ _ _ => id) rfl fun a k => d_done (by kernel_rfl) ?_
 have k := k.keep [6] rfl
 refine (nm_then ?_)
 refine wp_ret ?_
 cases h
 exact finR1 k rfl (RV.tmp k rfl) ⟨_, [g31], rfl, m.ext, (Enc.ow_agr hf36 (m.a 0 rfl)), (m.fresh 0 rfl)⟩
theorem c_spec_Fits (fu : Nat) {w0 : World} (x1 : Item) (t2 : Typ)  {r : Bool}
    (h : d_spec_Fits fu x1 t2 = some r) :
    Calls Tryz.prog 135 #[.agg (Flat.e (x1)).toArray, .agg (Flat.e (t2)).toArray] w0 fun e w => e = .returned (.bool (r)) ∧ Ext [] w0 w := by
 refine enter (vs := [_, _]) func135 rfl ntmps135 rfl fun a k => ?_
 have m := St.start w0
 unfold d_spec_Fits at h
 refine wr (s_box (cs := [.int .i64 x1.fId, .int .i64 x1.fW, .int .i64 x1.fH, .int .i64 x1.fD, .int .i64 x1.fGram, .int .i64 x1.fClass, .int .i64 x1.fCount]) m k rfl rfl rfl rfl rfl rfl fun b3 w5 a k m e hb4 => s_box (cs := [.int .i64 t2.fId, .int .i64 t2.fW, .int .i64 t2.fH, .int .i64 t2.fD, .int .i64 t2.fTare, .int .i64 t2.fGram, .int .i64 t2.fCost]) m k rfl rfl rfl rfl rfl rfl fun b6 w8 a k m e hb7 => pN 1 k rfl fun a k => nn (wr (sv k rfl (r_fa fa120_1 k rfl rfl) fun a k => sv k rfl (r_ldb t13 m 1 hb4 1 k rfl rfl rfl rfl rfl) fun a k => sv k rfl (r_fa fa120_2 k rfl rfl) fun a k => sv k rfl (r_ldb t13 m 1 hb4 2 k rfl rfl rfl rfl rfl) fun a k => sv k rfl (r_fa fa120_3 k rfl rfl) fun a k => sv k rfl (r_ldb t13 m 1 hb4 3 k rfl rfl rfl rfl rfl) fun a k => oE h fun x9 hx10 h => ?_)))
 refine s_call k call178 rfl rfl rfl rfl rfl (c_spec_l5Sides fu _ _ _  hx10) fun e11 w12 hR => ?_
 obtain ⟨v17, F13, rfl, e, hf14, hfr15⟩ := hR
 refine ⟨_, rfl, fun a k => ?_⟩
 have m := m.new e F13 (fun b hb => ⟨hfr15 b hb, Enc.rd_lt (Enc.ow_rd hf14) b hb⟩) (Enc.ow_nd hf14)
 refine pN 1 k rfl fun a k => nn (wr (sv k rfl (r_fa fa92_1 k rfl rfl) fun a k => sv k rfl (r_ldb t13 m 1 hb7 1 k rfl rfl rfl rfl rfl) fun a k => sv k rfl (r_fa fa92_2 k rfl rfl) fun a k => sv k rfl (r_ldb t13 m 1 hb7 2 k rfl rfl rfl rfl rfl) fun a k => sv k rfl (r_fa fa92_3 k rfl rfl) fun a k => sv k rfl (r_ldb t13 m 1 hb7 3 k rfl rfl rfl rfl rfl) fun a k => oE h fun x18 hx19 h => s_call k call178 rfl rfl rfl rfl rfl (c_spec_l5Sides fu _ _ _  hx19) fun e20 w21 hR => ?_))
 obtain ⟨v26, F22, rfl, e, hf23, hfr24⟩ := hR
 refine ⟨_, rfl, fun a k => ?_⟩
 have m := m.new e F22 (fun b hb => ⟨hfr24 b hb, Enc.rd_lt (Enc.ow_rd hf23) b hb⟩) (Enc.ow_nd hf23)
 refine pN 1 k rfl fun a k => nn (wp_seq (d_go [] mixo m rfl fun w27 hMd => ?_))
 have m := hMd
 have s := Ext.refl ([] : List Nat) w27
 refine dp k 0 rfl (by kernel_rfl) rfl s (fun _ _ _ => id) rfl fun a k => oE h fun x28 hx29 h => dt k 1 rfl (by kernel_rfl) rfl s (fun _ _ _ => id) (fun w s => r_ixa (Enc.ow_rd hf14) hx29 k ts29 rfl rfl rfl) fun a k => dt k 2 rfl (by kernel_rfl) rfl s (fun _ _ _ => id) (fun w s => r_lde1 (Enc.ow_rd hf14) ((hMd.step s).a 1 rfl) hx29 0 t13 k rfl rfl rfl rfl) fun a k => dp k 3 rfl (by kernel_rfl) rfl s (fun _ _ _ => id) rfl fun a k => oE h fun x30 hx31 h => dt k 4 rfl (by kernel_rfl) rfl s (fun _ _ _ => id) (fun w s => r_ixa (Enc.ow_rd hf23) hx31 k ts29 rfl rfl rfl) fun a k => dt k 5 rfl (by kernel_rfl) rfl s (fun _ _ _ => id) (fun w s => r_lde1 (Enc.ow_rd hf23) ((hMd.step s).a 0 rfl) hx31 0 t13 k rfl rfl rfl rfl) fun a k => dp k 6 rfl (by kernel_rfl) rfl s (fun _ _ _ => id) rfl fun a k => ?_
 refine dp k 7 rfl (by kernel_rfl) rfl s (fun _ _ _ => id) rfl fun a k => bsplit (decide (x28 ≤ x30)) (fun hb32 => ?_) (fun hb32 => ?_)
 · have h := bif_t hb32 h
   refine rB k 28 rfl hb32 fun k => dp k 8 rfl (by kernel_rfl) rfl s (fun _ _ _ => id) rfl fun a k => oE h fun x33 hx34 h => dt k 9 rfl (by kernel_rfl) rfl s (fun _ _ _ => id) (fun w s => r_ixa (Enc.ow_rd hf14) hx34 k ts29 rfl rfl rfl) fun a k => dt k 10 rfl (by kernel_rfl) rfl s (fun _ _ _ => id) (fun w s => r_lde1 (Enc.ow_rd hf14) ((hMd.step s).a 1 rfl) hx34 0 t13 k rfl rfl rfl rfl) fun a k => dp k 11 rfl (by kernel_rfl) rfl s (fun _ _ _ => id) rfl fun a k => oE h fun x35 hx36 h => dt k 12 rfl (by kernel_rfl) rfl s (fun _ _ _ => id) (fun w s => r_ixa (Enc.ow_rd hf23) hx36 k ts29 rfl rfl rfl) fun a k => dt k 13 rfl (by kernel_rfl) rfl s (fun _ _ _ => id) (fun w s => r_lde1 (Enc.ow_rd hf23) ((hMd.step s).a 0 rfl) hx36 0 t13 k rfl rfl rfl rfl) fun a k => dp k 14 rfl (by kernel_rfl) rfl s (fun _ _ _ => id) rfl fun a k => ?_
   refine dp k 15 rfl (by kernel_rfl) rfl s (fun _ _ _ => id) rfl fun a k => dp k 16 rfl (by kernel_rfl) rfl s (fun _ _ _ => id) rfl fun a k => bsplit (decide (x33 ≤ x35)) (fun hb37 => ?_) (fun hb37 => ?_)
   · have h := bif_t hb37 h
     refine rB k 37 rfl hb37 fun k => dp k 17 rfl (by kernel_rfl) rfl s (fun _ _ _ => id) rfl fun a k => oE h fun x38 hx39 h => dt k 18 rfl (by kernel_rfl) rfl s (fun _ _ _ => id) (fun w s => r_ixa (Enc.ow_rd hf14) hx39 k ts29 rfl rfl rfl) fun a k => dt k 19 rfl (by kernel_rfl) rfl s (fun _ _ _ => id) (fun w s => r_lde1 (Enc.ow_rd hf14) ((hMd.step s).a 1 rfl) hx39 0 t13 k rfl rfl rfl rfl) fun a k => dp k 20 rfl (by kernel_rfl) rfl s (fun _ _ _ => id) rfl fun a k => oE h fun x40 hx41 h => dt k 21 rfl (by kernel_rfl) rfl s (fun _ _ _ => id) (fun w s => r_ixa (Enc.ow_rd hf23) hx41 k ts29 rfl rfl rfl) fun a k => dt k 22 rfl (by kernel_rfl) rfl s (fun _ _ _ => id) (fun w s => r_lde1 (Enc.ow_rd hf23) ((hMd.step s).a 0 rfl) hx41 0 t13 k rfl rfl rfl rfl) fun a k => dp k 23 rfl (by kernel_rfl) rfl s (fun _ _ _ => id) rfl fun a k => ?_
     refine dp k 24 rfl (by kernel_rfl) rfl s (fun _ _ _ => id) rfl fun a k => dp k 25 rfl (by kernel_rfl) rfl s (fun _ _ _ => id) rfl fun a k => bsplit (decide (x38 ≤ x40)) (fun hb42 => ?_) (fun hb42 => ?_)
     · have h := bif_t hb42 h
       refine rB k 46 rfl hb42 fun k => dt k 26 rfl (by kernel_rfl) rfl s (fun _ _ _ => id) (fun w s => r_fa fa120_4 k rfl rfl) fun a k => dt k 27 rfl (by kernel_rfl) rfl s (fun _ _ _ => id) (fun w s => r_ld1 t13 (r := []) (hb4.at ((hMd.step s).a 3 rfl) 4 1 rfl rfl rfl) k rfl rfl) fun a k => dt k 28 rfl (by kernel_rfl) rfl s (fun _ _ _ => id) (fun w s => r_fa fa92_5 k rfl rfl) fun a k => dt k 29 rfl (by kernel_rfl) rfl s (fun _ _ _ => id) (fun w s => r_ld1 t13 (r := []) (hb7.at ((hMd.step s).a 2 rfl) 5 1 rfl rfl rfl) k rfl rfl) fun a k => dp k 30 rfl (by kernel_rfl) rfl s (fun _ _ _ => id) rfl fun a k => dp k 31 rfl (by kernel_rfl) rfl s (fun _ _ _ => id) rfl fun a k => dp k 32 rfl (by kernel_rfl) rfl s (fun _ _ _ => id) rfl fun a k => d_done (by kernel_rfl) ?_
       have k := k.keep [4] rfl
       refine (nm_then ?_)
       refine wp_ret (fS h k m rfl rfl)
     have h := bif_f hb42 h
     refine rB k 46 rfl hb42 fun k => ds k 26 rfl (by kernel_rfl) rfl s (fun _ _ _ => id) fun a k => ds k 27 rfl (by kernel_rfl) rfl s (fun _ _ _ => id) fun a k => ds k 28 rfl (by kernel_rfl) rfl s (fun _ _ _ => id) fun a k => ds k 29 rfl (by kernel_rfl) rfl s (fun _ _ _ => id) fun a k => ds k 30 rfl (by kernel_rfl) rfl s (fun _ _ _ => id) fun a k => dp k 31 rfl (by kernel_rfl) rfl s (fun _ _ _ => id) rfl fun a k => dp k 32 rfl (by kernel_rfl) rfl s (fun _ _ _ => id) rfl fun a k => d_done (by kernel_rfl) ?_
     have k := k.keep [4] rfl
     refine (nm_then ?_)
     refine wp_ret (fS h k m rfl rfl)
   have h := bif_f hb37 h
   refine rB k 37 rfl hb37 fun k => ds k 17 rfl (by kernel_rfl) rfl s (fun _ _ _ => id) fun a k => ds k 18 rfl (by kernel_rfl) rfl s (fun _ _ _ => id) fun a k => ds k 19 rfl (by kernel_rfl) rfl s (fun _ _ _ => id) fun a k => ds k 20 rfl (by kernel_rfl) rfl s (fun _ _ _ => id) fun a k => ds k 21 rfl (by kernel_rfl) rfl s (fun _ _ _ => id) fun a k => ds k 22 rfl (by kernel_rfl) rfl s (fun _ _ _ => id) fun a k => ds k 23 rfl (by kernel_rfl) rfl s (fun _ _ _ => id) fun a k => dp k 24 rfl (by kernel_rfl) rfl s (fun _ _ _ => id) rfl fun a k => dp k 25 rfl (by kernel_rfl) rfl s (fun _ _ _ => id) rfl fun a k => ds k 26 rfl (by kernel_rfl) rfl s (fun _ _ _ => id) fun a k => ds k 27 rfl (by kernel_rfl) rfl s (fun _ _ _ => id) fun a k => ds k 28 rfl (by kernel_rfl) rfl s (fun _ _ _ => id) fun a k => ?_
   refine ds k 29 rfl (by kernel_rfl) rfl s (fun _ _ _ => id) fun a k => ds k 30 rfl (by kernel_rfl) rfl s (fun _ _ _ => id) fun a k => dp k 31 rfl (by kernel_rfl) rfl s (fun _ _ _ => id) rfl fun a k => dp k 32 rfl (by kernel_rfl) rfl s (fun _ _ _ => id) rfl fun a k => d_done (by kernel_rfl) ?_
   have k := k.keep [4] rfl
   refine (nm_then ?_)
   refine wp_ret (fS h k m rfl rfl)
 have h := bif_f hb32 h
 refine rB k 28 rfl hb32 fun k => ds k 8 rfl (by kernel_rfl) rfl s (fun _ _ _ => id) fun a k => ds k 9 rfl (by kernel_rfl) rfl s (fun _ _ _ => id) fun a k => ds k 10 rfl (by kernel_rfl) rfl s (fun _ _ _ => id) fun a k => ds k 11 rfl (by kernel_rfl) rfl s (fun _ _ _ => id) fun a k => ds k 12 rfl (by kernel_rfl) rfl s (fun _ _ _ => id) fun a k => ds k 13 rfl (by kernel_rfl) rfl s (fun _ _ _ => id) fun a k => ds k 14 rfl (by kernel_rfl) rfl s (fun _ _ _ => id) fun a k => dp k 15 rfl (by kernel_rfl) rfl s (fun _ _ _ => id) rfl fun a k => dp k 16 rfl (by kernel_rfl) rfl s (fun _ _ _ => id) rfl fun a k => ds k 17 rfl (by kernel_rfl) rfl s (fun _ _ _ => id) fun a k => ds k 18 rfl (by kernel_rfl) rfl s (fun _ _ _ => id) fun a k => ds k 19 rfl (by kernel_rfl) rfl s (fun _ _ _ => id) fun a k => ?_
 refine ds k 20 rfl (by kernel_rfl) rfl s (fun _ _ _ => id) fun a k => ds k 21 rfl (by kernel_rfl) rfl s (fun _ _ _ => id) fun a k => ds k 22 rfl (by kernel_rfl) rfl s (fun _ _ _ => id) fun a k => ds k 23 rfl (by kernel_rfl) rfl s (fun _ _ _ => id) fun a k => dp k 24 rfl (by kernel_rfl) rfl s (fun _ _ _ => id) rfl fun a k => dp k 25 rfl (by kernel_rfl) rfl s (fun _ _ _ => id) rfl fun a k => ds k 26 rfl (by kernel_rfl) rfl s (fun _ _ _ => id) fun a k => ds k 27 rfl (by kernel_rfl) rfl s (fun _ _ _ => id) fun a k => ds k 28 rfl (by kernel_rfl) rfl s (fun _ _ _ => id) fun a k => ds k 29 rfl (by kernel_rfl) rfl s (fun _ _ _ => id) fun a k => ds k 30 rfl (by kernel_rfl) rfl s (fun _ _ _ => id) fun a k => dp k 31 rfl (by kernel_rfl) rfl s (fun _ _ _ => id) rfl fun a k => dp k 32 rfl (by kernel_rfl) rfl s (fun _ _ _ => id) rfl fun a k => ?_
 refine d_done (by kernel_rfl) ?_
 have k := k.keep [4] rfl
 refine (nm_then ?_)
 refine wp_ret (fS h k m rfl rfl)
theorem c_spec_Class (fu : Nat) {w0 : World} (r1 : Request) {cs2 : List Value} {F3 : List Nat} (hp4 : rd w0 F3 cs2 r1) {r : Int}
    (h : d_spec_Class fu r1 = some r) :
    Calls Tryz.prog 68 #[.agg cs2.toArray] w0 fun e w => e = .returned (.int .i64 r) ∧ Ext [] w0 w := by
 refine enter (vs := [_]) func68 rfl ntmps68 rfl fun a k => ?_
 have m := St.start w0
 obtain ⟨v5, F6, v7, F8, v9, F10, rfl, rfl, hf11, hf12, hf13⟩ := hp4
 unfold d_spec_Class at h
 refine wr (s_box (cs := [.int .i64 r1.fWay, .int .i64 r1.fPallet.fW, .int .i64 r1.fPallet.fD, .int .i64 r1.fPallet.fH, .int .i64 r1.fPallet.fGram, .int .i64 r1.fClasses, v5, v7, .int .i64 r1.fMaster, v9]) m k rfl rfl rfl rfl rfl rfl fun b14 w16 a k m e hb15 => pN 1 k rfl fun a k => nn (wp_seq (wr (sv k rfl (r_ldB ta40 m 0 hb15 0 k rfl rfl rfl rfl rfl rfl) fun a k => oE h fun x17 hx18 h => ?_))))
 refine cE k m call132 rfl rfl rfl (c_spec_BoundsOk fu _ (show rd _ _ [.int .i64 r1.fWay, .int .i64 r1.fPallet.fW, .int .i64 r1.fPallet.fD, .int .i64 r1.fPallet.fH, .int .i64 r1.fPallet.fGram, .int .i64 r1.fClasses, v5, v7, .int .i64 r1.fMaster, v9] (r1 : Request) from ⟨_, _, _, _, _, _, rfl, rfl, (Enc.rd_agr hf11 (m.a00 (Enc.rd_lt hf11))), (Enc.rd_agr hf12 (m.a00 (Enc.rd_lt hf12))), (Enc.rd_agr hf13 (m.a00 (Enc.rd_lt hf13)))⟩) hx18) fun w20 e a k m => pN 1 k rfl fun a k => nn (cI h k rfl (fun hb21 h => ?_) fun hb21 h => ?_)
 · refine wr (pN 1 k rfl fun a k => nn (wp_ret (rt_then ?_)))
   refine fS h k m rfl rfl
 refine wp_skip (nm_then ?_)
 refine wp_seq (wr (sv k rfl (r_ldB ta40 m 0 hb15 0 k rfl rfl rfl rfl rfl rfl) fun a k => oE h fun x22 hx23 h => cE k m call133 rfl rfl rfl (c_spec_l5Names fu _ (show rd _ _ [.int .i64 r1.fWay, .int .i64 r1.fPallet.fW, .int .i64 r1.fPallet.fD, .int .i64 r1.fPallet.fH, .int .i64 r1.fPallet.fGram, .int .i64 r1.fClasses, v5, v7, .int .i64 r1.fMaster, v9] (r1 : Request) from ⟨_, _, _, _, _, _, rfl, rfl, (Enc.rd_agr hf11 (m.a00 (Enc.rd_lt hf11))), (Enc.rd_agr hf12 (m.a00 (Enc.rd_lt hf12))), (Enc.rd_agr hf13 (m.a00 (Enc.rd_lt hf13)))⟩) hx23) fun w25 e a k m => pN 1 k rfl fun a k => nn (cI h k rfl (fun hb26 h => ?_) fun hb26 h => ?_)))
 · refine wr (pN 1 k rfl fun a k => nn (wp_ret (rt_then ?_)))
   refine fS h k m rfl rfl
 refine wp_skip (nm_then ?_)
 refine wp_seq (wr (sv k rfl (r_fa fa40_3 k rfl rfl) fun a k => sv k rfl (r_ldb t136 m 0 hb15 6 k rfl rfl rfl rfl rfl) fun a k => sv k rfl (r_fa fa40_2 k rfl rfl) fun a k => sv k rfl (r_ldb t13 m 0 hb15 5 k rfl rfl rfl rfl rfl) fun a k => oE h fun x27 hx28 h => cE k m call134 rfl rfl rfl (c_spec_TableOk fu _ _ (Enc.rd_agr hf11 (m.a00 (Enc.rd_lt hf11))) hx28) fun w30 e a k m => pN 1 k rfl fun a k => nn (cI h k rfl (fun hb31 h => ?_) fun hb31 h => ?_)))
 · refine wr (pN 1 k rfl fun a k => nn (wp_ret (rt_then ?_)))
   refine fS h k m rfl rfl
 refine wp_skip (nm_then ?_)
 refine wr (sv k rfl (r_ldB ta40 m 0 hb15 0 k rfl rfl rfl rfl rfl rfl) fun a k => oE h fun x32 hx33 h => cE k m call88 rfl rfl rfl (c_spec_MasterOf fu _ (show rd _ _ [.int .i64 r1.fWay, .int .i64 r1.fPallet.fW, .int .i64 r1.fPallet.fD, .int .i64 r1.fPallet.fH, .int .i64 r1.fPallet.fGram, .int .i64 r1.fClasses, v5, v7, .int .i64 r1.fMaster, v9] (r1 : Request) from ⟨_, _, _, _, _, _, rfl, rfl, (Enc.rd_agr hf11 (m.a00 (Enc.rd_lt hf11))), (Enc.rd_agr hf12 (m.a00 (Enc.rd_lt hf12))), (Enc.rd_agr hf13 (m.a00 (Enc.rd_lt hf13)))⟩) hx33) fun w35 e a k m => pN 3 k rfl fun a k => s_alloc (cs := [.int .i64 0, .int .i64 0, .int .i64 0, .int .i64 0, .int .i64 0, .int .i64 0, .int .i64 0]) m k zeroValue92 rfl rfl rfl rfl rfl fun b36 w38 a k m e hb37 => ?_)
 refine s_stb (cs' := [.int .i64 x32.1.fId, .int .i64 x32.1.fW, .int .i64 x32.1.fH, .int .i64 x32.1.fD, .int .i64 x32.1.fTare, .int .i64 x32.1.fGram, .int .i64 x32.1.fCost]) sizeOf92 m 0 hb37 0 k rfl rfl rfl rfl rfl rfl rfl rfl rfl rfl rfl fun w39 a k e m hb40 => pN 1 k rfl fun a k => nn (wp_seq (wr (pN 1 k rfl fun a k => nn (wp_block (c_loop (fun n a w => ∃ (i63 : Int), K 85 [(1, .pointer (some (⟨b14, 0, none⟩ : Addr))), (3, .pointer (some (⟨b36, 0, none⟩ : Addr))), (5, .int .i64 i63)] a ∧ St [] w0 w [([b14], w16), ([b36], w39)] ∧ d_spec_Class_L2 fu r1 x32 n i63 = some r) ?_ ?_ fu _ _ ?_)))))
 · rintro a w ⟨_, _, _, h⟩
   exact nS h
 · rintro m64 a w62 ⟨i63, k, m, h⟩
   rw [d_spec_Class_L2_s] at h
   unfold d_spec_Class_L2_B at h
   refine wp_seq (wr (pN 1 k rfl fun a k => sv k rfl (r_fa fa40_6 k rfl rfl) fun a k => sv k rfl (r_ldb t138 m 0 hb15 9 k rfl rfl rfl rfl rfl) fun a k => sv k rfl (r_len (α := Item) hf13 k underlying38 rfl rfl) fun a k => pN 1 k rfl fun a k => nn (cI h k rfl (fun hb65 h => ?_) fun hb65 h => ?_)))
   · refine wp_skip (nm_then ?_)
     refine wp_seq (wp_block (wp_seq (d_go [] mixo m rfl fun w66 hMd => ?_)))
     have m := hMd
     have s := Ext.refl ([] : List Nat) w66
     refine dt k 0 rfl (by kernel_rfl) rfl s (fun _ _ _ => id) (fun w s => r_fa fa40_6 k rfl rfl) fun a k => dt k 1 rfl (by kernel_rfl) rfl s (fun _ _ _ => id) (fun w s => r_ld1 t138 (r := []) (hb15.at ((hMd.step s).a 0 rfl) 9 1 rfl rfl rfl) k rfl rfl) fun a k => dp k 2 rfl (by kernel_rfl) rfl s (fun _ _ _ => id) rfl fun a k => oE h fun x67 hx68 h => dt k 3 rfl (by kernel_rfl) rfl s (fun _ _ _ => id) (fun w s => r_ixa hf13 hx68 k ts38 rfl rfl rfl) fun a k => dt k 4 rfl (by kernel_rfl) rfl s (fun _ _ _ => id) (fun w s => r_lde hf13 ((hMd.step s).a00 (Enc.rd_lt hf13)) hx68 ta120 k rfl rfl) fun a k => dt k 5 rfl (by kernel_rfl) rfl s (fun _ _ _ => id) (fun w s => r_ldA ta92 (hb40.at ((hMd.step s).a 1 rfl) 0 7 rfl rfl rfl) rfl k rfl rfl) fun a k => d_one 6 (by kernel_rfl) rfl (oE h fun x69 hx70 h => ?_)
     refine cE k m call135 rfl rfl rfl (c_spec_Fits fu (x67 : Item) (x32.1 : Typ)  hx70) fun w72 e a k m => ?_
     have s := s.trans e (by simp)
     refine wpList_nil ⟨s, ?_⟩
     refine dp k 7 rfl (by kernel_rfl) rfl s (fun _ _ _ => id) rfl fun a k => d_done (by kernel_rfl) ((nm_then ?_))
     refine cI h k rfl (fun hb73 h => ?_) fun hb73 h => ?_
     · refine wr (pN 1 k rfl fun a k => nn (wp_ret (rt_block (rt_then (rt_then (rt_block (rt_then ?_)))))))
       refine fS h k m rfl rfl
     refine wp_skip (nm_block (nm_then ?_))
     refine wp_region_lit (pN 3 k rfl fun a k => nn ?_)
     exact ⟨w64 (i63 + 1), k.keep [1, 3, 5] rfl, m.sel [0, 1] rfl (by decide), h⟩
   refine wp_exit (ex_then (ex_then (ex_same (nm_then ?_))))
   refine wp_seq (wr (pN 1 k rfl fun a k => nn (wp_block (c_loop (fun n a w => ∃ (i126 : Int), K 85 [(1, .pointer (some (⟨b14, 0, none⟩ : Addr))), (6, .int .i64 i126)] a ∧ St [] w0 w [([b14], w16)] ∧ d_spec_Class_L1 fu r1 n i126 = some r) ?_ ?_ fu _ _ ?_))))
   · rintro a w ⟨_, _, _, h⟩
     exact nS h
   · rintro m127 a w125 ⟨i126, k, m, h⟩
     rw [d_spec_Class_L1_s] at h
     unfold d_spec_Class_L1_B at h
     refine wp_seq (wr (pN 1 k rfl fun a k => sv k rfl (r_fa fa40_4 k rfl rfl) fun a k => sv k rfl (r_ldb t137 m 0 hb15 7 k rfl rfl rfl rfl rfl) fun a k => sv k rfl (r_len (α := Typ) hf12 k underlying37 rfl rfl) fun a k => pN 1 k rfl fun a k => nn (cI h k rfl (fun hb128 h => ?_) fun hb128 h => ?_)))
     · refine wp_skip (nm_then ?_)
       refine c_cut (fun a w => K 85 [(1, .pointer (some (⟨b14, 0, none⟩ : Addr))), (6, .int .i64 i126)] a ∧ St [] w0 w [([b14], w16)] ∧ d_spec_Class_J1 fu (d_spec_Class_L1 fu r1 m127) i126 = some r) ?_ ?_
       · rintro a w140 ⟨k, m, h⟩
         unfold d_spec_Class_J1 at h
         refine wp_region_lit (pN 3 k rfl fun a k => nn ?_)
         exact ⟨w64 (i126 + 1), k.keep [1, 6] rfl, m.sel [0] rfl (by decide), h⟩
       refine wp_block (wr (sv k rfl (r_fa fa40_4 k rfl rfl) fun a k => sv k rfl (r_ldb t137 m 0 hb15 7 k rfl rfl rfl rfl rfl) fun a k => pN 1 k rfl fun a k => oE h fun x141 hx142 h => sv k rfl (r_ixa hf12 hx142 k ts37 rfl rfl rfl) fun a k => sv k rfl (r_lde hf12 (m.a00 (Enc.rd_lt hf12)) hx142 ta92 k rfl rfl) fun a k => s_alloc (cs := [.int .i64 0, .int .i64 0, .int .i64 0, .int .i64 0, .int .i64 0, .int .i64 0, .int .i64 0]) m k zeroValue92 rfl rfl rfl rfl rfl fun b143 w145 a k m e hb144 => s_stb (cs' := [.int .i64 x141.fId, .int .i64 x141.fW, .int .i64 x141.fH, .int .i64 x141.fD, .int .i64 x141.fTare, .int .i64 x141.fGram, .int .i64 x141.fCost]) sizeOf92 m 0 hb144 0 k rfl rfl rfl rfl rfl rfl rfl rfl rfl rfl rfl fun w146 a k e m hb147 => nn (wr (sv k rfl (r_fa fa92_1 k rfl rfl) fun a k => ?_))))
       refine sv k rfl (r_ldb t13 m 0 hb147 1 k rfl rfl rfl rfl rfl) fun a k => sv k rfl (r_fa fa40_1 k rfl rfl) fun a k => sv k rfl (r_fa fa35_0 k rfl rfl) fun a k => sv k rfl (r_ldb t13 m 1 hb15 1 k rfl rfl rfl rfl rfl) fun a k => pN 2 k rfl fun a k => bsplit (decide (x141.fW > r1.fPallet.fW)) (fun hb148 => ?_) (fun hb148 => ?_)
       · have h := bif_t hb148 h
         refine rB k 58 rfl hb148 fun k => pN 26 k rfl fun a k => ?_
         have k := k.keep [1, 6, 84] rfl
         refine nn (wp_cond_true (k.ev rfl) (wr (pN 1 k rfl fun a k => nn (wp_ret (rt_block (rt_then (rt_then (rt_block (rt_then ?_)))))))))
         refine fS h k m rfl rfl
       have h := bif_f hb148 h
       refine rB k 58 rfl hb148 fun k => sv k rfl (r_fa fa92_3 k rfl rfl) fun a k => sv k rfl (r_ldb t13 m 0 hb147 3 k rfl rfl rfl rfl rfl) fun a k => sv k rfl (r_fa fa40_1 k rfl rfl) fun a k => sv k rfl (r_fa fa35_1 k rfl rfl) fun a k => sv k rfl (r_ldb t13 m 1 hb15 2 k rfl rfl rfl rfl rfl) fun a k => pN 3 k rfl fun a k => bsplit (decide (x141.fD > r1.fPallet.fD)) (fun hb149 => ?_) (fun hb149 => ?_)
       · have h := bif_t hb149 h
         refine rB k 66 rfl hb149 fun k => pN 18 k rfl fun a k => ?_
         have k := k.keep [1, 6, 84] rfl
         refine nn (wp_cond_true (k.ev rfl) (wr (pN 1 k rfl fun a k => nn (wp_ret (rt_block (rt_then (rt_then (rt_block (rt_then ?_)))))))))
         refine fS h k m rfl rfl
       have h := bif_f hb149 h
       refine rB k 66 rfl hb149 fun k => sv k rfl (r_fa fa92_2 k rfl rfl) fun a k => sv k rfl (r_ldb t13 m 0 hb147 2 k rfl rfl rfl rfl rfl) fun a k => sv k rfl (r_fa fa40_1 k rfl rfl) fun a k => sv k rfl (r_fa fa35_2 k rfl rfl) fun a k => sv k rfl (r_ldb t13 m 1 hb15 3 k rfl rfl rfl rfl rfl) fun a k => pN 3 k rfl fun a k => bsplit (decide (x141.fH > r1.fPallet.fH)) (fun hb150 => ?_) (fun hb150 => ?_)
       · have h := bif_t hb150 h
         refine rB k 74 rfl hb150 fun k => pN 10 k rfl fun a k => ?_
         have k := k.keep [1, 6, 84] rfl
         refine nn (wp_cond_true (k.ev rfl) (wr (pN 1 k rfl fun a k => nn (wp_ret (rt_block (rt_then (rt_then (rt_block (rt_then ?_)))))))))
         refine fS h k m rfl rfl
       have h := bif_f hb150 h
       refine rB k 74 rfl hb150 fun k => sv k rfl (r_fa fa92_4 k rfl rfl) fun a k => sv k rfl (r_ldb t13 m 0 hb147 4 k rfl rfl rfl rfl rfl) fun a k => sv k rfl (r_fa fa92_5 k rfl rfl) fun a k => sv k rfl (r_ldb t13 m 0 hb147 5 k rfl rfl rfl rfl rfl) fun a k => pN 1 k rfl fun a k => sv k rfl (r_fa fa40_1 k rfl rfl) fun a k => sv k rfl (r_fa fa35_3 k rfl rfl) fun a k => sv k rfl (r_ldb t13 m 1 hb15 4 k rfl rfl rfl rfl rfl) fun a k => pN 2 k rfl fun a k => ?_
       have k := k.keep [1, 6, 84] rfl
       refine nn (cI h k rfl (fun hb151 h => ?_) fun hb151 h => ?_)
       · refine wr (pN 1 k rfl fun a k => nn (wp_ret (rt_block (rt_then (rt_then (rt_block (rt_then ?_)))))))
         refine fS h k m rfl rfl
       refine wp_skip (nm_block (nm_then ?_))
       exact ⟨k.keep [1, 6] rfl, m.sel [1] rfl (by decide), h⟩
     refine wp_exit (ex_then (ex_then (ex_same (nm_then ?_))))
     refine wr (pN 1 k rfl fun a k => nn (wp_ret (fS h k m rfl rfl)))
   exact ⟨0, k.keep [1, 6] rfl, m.sel [0] rfl (by decide), h⟩
 exact ⟨0, k.keep [1, 3, 5] rfl, m.sel [1, 0] rfl (by decide), h⟩
theorem c_spec_l6Units (fu : Nat) {w0 : World} (r1 : Request) {cs2 : List Value} {F3 : List Nat} (hp4 : rd w0 F3 cs2 r1) {r : (List Int)}
    (h : d_spec_l6Units fu r1 = some r) :
    Calls Tryz.prog 106 #[.agg cs2.toArray] w0 fun e w => ∃ (v0 : Value) (G0 : List Nat), e = .returned (v0) ∧ Ext [] w0 w ∧ ow w G0 [v0] r ∧ (∀ b ∈ G0, w0.heap.size ≤ b) := by
 refine enter (vs := [_]) func106 rfl ntmps106 rfl fun a k => ?_
 have m := St.start w0
 obtain ⟨v5, F6, v7, F8, v9, F10, rfl, rfl, hf11, hf12, hf13⟩ := hp4
 unfold d_spec_l6Units at h
 refine wr (s_box (cs := [.int .i64 r1.fWay, .int .i64 r1.fPallet.fW, .int .i64 r1.fPallet.fD, .int .i64 r1.fPallet.fH, .int .i64 r1.fPallet.fGram, .int .i64 r1.fClasses, v5, v7, .int .i64 r1.fMaster, v9]) m k rfl rfl rfl rfl rfl rfl fun b14 w16 a k m e hb15 => pN 1 k rfl fun a k => nn (wr (s_bs (cs := []) (ps := []) te29 m k rfl rfl rfl rfl rfl rfl rfl (by decide) rfl (by exact (List.forall_mem_nil _)) fun g17 w18 e20 a k m e hb19 => ?_)))
 have hf21 := ow_bx hb19 ([] : List Int) rfl rfl rfl
 refine pN 1 k rfl fun a k => nn (wp_seq (wr (pN 1 k rfl fun a k => nn (wp_block (c_loop (fun n a w => ∃ (out149 : List Int) (v150 : Value) (F151 : List Nat) (u152 : World) (i154 : Int), K 29 [(1, .pointer (some (⟨b14, 0, none⟩ : Addr))), (3, v150), (4, .int .i64 i154)] a ∧ St [] w0 w [([b14], w16), (F151, u152)] ∧ ow u152 F151 [v150] out149 ∧ d_spec_l6Units_L2 fu r1 n out149 i154 = some r) ?_ ?_ fu _ _ ?_)))))
 · rintro a w ⟨_, _, _, _, _, _, _, _, h⟩
   exact nS h
 · rintro m155 a w148 ⟨out149, v150, F151, u152, i154, k, m, hf153, h⟩
   rw [d_spec_l6Units_L2_s] at h
   unfold d_spec_l6Units_L2_B at h
   refine wp_seq (wr (pN 1 k rfl fun a k => sv k rfl (r_fa fa40_6 k rfl rfl) fun a k => sv k rfl (r_ldb t138 m 0 hb15 9 k rfl rfl rfl rfl rfl) fun a k => sv k rfl (r_len (α := Item) hf13 k underlying38 rfl rfl) fun a k => pN 1 k rfl fun a k => nn (cI h k rfl (fun hb156 h => ?_) fun hb156 h => ?_)))
   · refine wp_skip (nm_then ?_)
     refine wp_seq (wp_block (wr (pN 1 k rfl fun a k => nn (wp_block (c_loop (fun n a w => ∃ (out194 : List Int) (v195 : Value) (F196 : List Nat) (u197 : World) (kv199 : Int), K 29 [(1, .pointer (some (⟨b14, 0, none⟩ : Addr))), (3, v195), (4, .int .i64 i154), (5, .int .i64 kv199)] a ∧ St [] w0 w [([b14], w16), (F196, u197)] ∧ ow u197 F196 [v195] out194 ∧ d_spec_l6Units_L1 fu (d_spec_l6Units_L2 fu r1 m155) r1 i154 n out194 kv199 = some r) ?_ ?_ fu _ _ ?_)))))
     · rintro a w ⟨_, _, _, _, _, _, _, _, h⟩
       exact nS h
     · rintro m200 a w193 ⟨out194, v195, F196, u197, kv199, k, m, hf198, h⟩
       rw [d_spec_l6Units_L1_s] at h
       unfold d_spec_l6Units_L1_B at h
       refine wp_seq (wr (pN 1 k rfl fun a k => sv k rfl (r_fa fa40_6 k rfl rfl) fun a k => sv k rfl (r_ldb t138 m 0 hb15 9 k rfl rfl rfl rfl rfl) fun a k => pN 1 k rfl fun a k => oE h fun x201 hx202 h => sv k rfl (r_ixa hf13 hx202 k ts38 rfl rfl rfl) fun a k => sv k rfl (r_fa fa120_6 k rfl rfl) fun a k => sv k rfl (r_lde1 hf13 (m.a00 (Enc.rd_lt hf13)) hx202 6 t13 k rfl rfl rfl rfl) fun a k => pN 1 k rfl fun a k => nn (cI h k rfl (fun hb203 h => ?_) fun hb203 h => ?_)))
       · refine wp_skip (nm_then ?_)
         refine wp_seq (wp_block (wp_region_lit (pN 2 k rfl fun a k => s_bs (cs := [.int .i64 i154]) (ps := [(0, .tmp 25)]) te29 m k rfl rfl rfl rfl rfl rfl rfl (by decide) rfl (by exact (List.forall_mem_cons.2 ⟨rfl, (List.forall_mem_nil _)⟩)) fun g204 w205 e207 a k m e hb206 => ?_)))
         have hf208 := ow_bx hb206 ([i154] : List Int) rfl rfl rfl
         refine oE h fun x209 hx210 h => s_appF hx210 te29 rfl m 2 hf198 (News.rd (Enc.rd_agr (Enc.ow_rd hf208) (m.a 0 rfl))) rfl rfl k rfl rfl rfl rfl rfl rfl rfl fun v211 F212 w213 a k e m hf214 => pN 1 k rfl fun a k => wpList_nil (nm_block (nm_then ?_))
         refine wp_region_lit (pN 3 k rfl fun a k => nn ?_)
         exact ⟨x209, v211, F212, w213, w64 (kv199 + 1), k.keep [1, 3, 4, 5] rfl, m.sel [1, 2] rfl (by decide), hf214, h⟩
       refine wp_exit (ex_then (ex_then (ex_same (nm_block (nm_then ?_)))))
       refine wp_region_lit (pN 3 k rfl fun a k => nn ?_)
       exact ⟨out194, v195, F196, u197, w64 (i154 + 1), k.keep [1, 3, 4] rfl, m.sel [0, 1] rfl (by decide), hf198, h⟩
     exact ⟨out149, v150, F151, u152, 0, k.keep [1, 3, 4, 5] rfl, m.sel [0, 1] rfl (by decide), hf153, h⟩
   refine wp_exit (ex_then (ex_then (ex_same (nm_then ?_))))
   refine wr (pN 2 k rfl fun a k => nn (wp_ret ?_))
   cases h
   exact finR1 k rfl (RV.tmp k rfl) ⟨_, F151, rfl, m.ext, (Enc.ow_agr hf153 (m.a 1 rfl)), (m.fresh 1 rfl)⟩
 exact ⟨([] : List Int), (.slice (some ⟨g17, 0, none⟩) 0 0), [g17], w18, 0, k.keep [1, 3, 4] rfl, m.sel [1, 0] rfl (by decide), hf21, h⟩
theorem c_spec_Units (fu : Nat) {w0 : World} (r1 : Request) {cs2 : List Value} {F3 : List Nat} (hp4 : rd w0 F3 cs2 r1) {r : (List Int)}
    (h : d_spec_Units fu r1 = some r) :
    Calls Tryz.prog 83 #[.agg cs2.toArray] w0 fun e w => ∃ (v0 : Value) (G0 : List Nat), e = .returned (v0) ∧ Ext [] w0 w ∧ ow w G0 [v0] r ∧ (∀ b ∈ G0, w0.heap.size ≤ b) := by
 refine enter (vs := [_]) func83 rfl ntmps83 rfl fun a k => ?_
 have m := St.start w0
 obtain ⟨v5, F6, v7, F8, v9, F10, rfl, rfl, hf11, hf12, hf13⟩ := hp4
 unfold d_spec_Units at h
 refine wr (s_box (cs := [.int .i64 r1.fWay, .int .i64 r1.fPallet.fW, .int .i64 r1.fPallet.fD, .int .i64 r1.fPallet.fH, .int .i64 r1.fPallet.fGram, .int .i64 r1.fClasses, v5, v7, .int .i64 r1.fMaster, v9]) m k rfl rfl rfl rfl rfl rfl fun b14 w16 a k m e hb15 => pN 1 k rfl fun a k => nn (wp_seq (wr (sv k rfl (r_ldB ta40 m 0 hb15 0 k rfl rfl rfl rfl rfl rfl) fun a k => oE h fun x17 hx18 h => cE k m call68 rfl rfl rfl (c_spec_Class fu _ (show rd _ _ [.int .i64 r1.fWay, .int .i64 r1.fPallet.fW, .int .i64 r1.fPallet.fD, .int .i64 r1.fPallet.fH, .int .i64 r1.fPallet.fGram, .int .i64 r1.fClasses, v5, v7, .int .i64 r1.fMaster, v9] (r1 : Request) from ⟨_, _, _, _, _, _, rfl, rfl, (Enc.rd_agr hf11 (m.a00 (Enc.rd_lt hf11))), (Enc.rd_agr hf12 (m.a00 (Enc.rd_lt hf12))), (Enc.rd_agr hf13 (m.a00 (Enc.rd_lt hf13)))⟩) hx18) fun w20 e a k m => ?_))))
 refine pN 1 k rfl fun a k => nn (cI h k rfl (fun hb21 h => ?_) fun hb21 h => ?_)
 · refine wr (s_bs (cs := []) (ps := []) te29 m k rfl rfl rfl rfl rfl rfl rfl (by decide) rfl (by exact (List.forall_mem_nil _)) fun g22 w23 e25 a k m e hb24 => ?_)
   have hf26 := ow_bx hb24 ([] : List Int) rfl rfl rfl
   refine pN 1 k rfl fun a k => nn (wp_ret (rt_then ?_))
   cases h
   exact finR1 k rfl (RV.tmp k rfl) ⟨_, [g22], rfl, m.ext, (Enc.ow_agr hf26 (m.a 0 rfl)), (m.fresh 0 rfl)⟩
 refine wp_skip (nm_then ?_)
 refine wr (sv k rfl (r_ldB ta40 m 0 hb15 0 k rfl rfl rfl rfl rfl rfl) fun a k => oE h fun x27 hx28 h => s_call k call106 rfl rfl rfl rfl rfl (c_spec_l6Units fu _ (show rd _ _ [.int .i64 r1.fWay, .int .i64 r1.fPallet.fW, .int .i64 r1.fPallet.fD, .int .i64 r1.fPallet.fH, .int .i64 r1.fPallet.fGram, .int .i64 r1.fClasses, v5, v7, .int .i64 r1.fMaster, v9] (r1 : Request) from ⟨_, _, _, _, _, _, rfl, rfl, (Enc.rd_agr hf11 (m.a00 (Enc.rd_lt hf11))), (Enc.rd_agr hf12 (m.a00 (Enc.rd_lt hf12))), (Enc.rd_agr hf13 (m.a00 (Enc.rd_lt hf13)))⟩) hx28) fun e29 w30 hR => ?_)
 obtain ⟨v35, F31, rfl, e, hf32, hfr33⟩ := hR
 refine ⟨_, rfl, fun a k => ?_⟩
 have m := m.new e F31 (fun b hb => ⟨hfr33 b hb, Enc.rd_lt (Enc.ow_rd hf32) b hb⟩) (Enc.ow_nd hf32)
 refine pN 1 k rfl fun a k => nn (wp_ret ?_)
 cases h
 exact finR1 k rfl (RV.tmp k rfl) ⟨_, F31, rfl, m.ext, (Enc.ow_agr hf32 (m.a 0 rfl)), (m.fresh 0 rfl)⟩
theorem c_spec_l6Item (fu : Nat) {w0 : World} (r1 : Request) (units5 : List Int) (u9 : Int) {cs2 : List Value} {F3 : List Nat} (hp4 : rd w0 F3 cs2 r1) {v6 : Value} {F7 : List Nat} (hp8 : rd w0 F7 [v6] units5) {r : Item × Bool}
    (h : d_spec_l6Item fu r1 units5 u9 = some r) :
    Calls Tryz.prog 102 #[.agg cs2.toArray, v6, .int .i64 u9] w0 fun e w => e = .returned (.tuple #[.agg (Flat.e r.1).toArray, .bool (r.2)]) ∧ Ext [] w0 w := by
 refine enter (vs := [_, _, _]) func102 rfl ntmps102 rfl fun a k => ?_
 have m := St.start w0
 obtain ⟨v10, F11, v12, F13, v14, F15, rfl, rfl, hf16, hf17, hf18⟩ := hp4
 unfold d_spec_l6Item at h
 refine wr (s_box (cs := [.int .i64 r1.fWay, .int .i64 r1.fPallet.fW, .int .i64 r1.fPallet.fD, .int .i64 r1.fPallet.fH, .int .i64 r1.fPallet.fGram, .int .i64 r1.fClasses, v10, v12, .int .i64 r1.fMaster, v14]) m k rfl rfl rfl rfl rfl rfl fun b19 w21 a k m e hb20 => s_alloc (cs := [.int .i64 0, .int .i64 0, .int .i64 0, .int .i64 0, .int .i64 0, .int .i64 0, .int .i64 0]) m k zeroValue120 rfl rfl rfl rfl rfl fun b22 w24 a k m e hb23 => pN 1 k rfl fun a k => nn (wp_seq (wr (pN 2 k rfl fun a k => sv k rfl (r_len (α := Int) hp8 k underlying29 rfl rfl) fun a k => pN 1 k rfl fun a k => oE h fun x25 hx26 h => cE k m call136 rfl rfl rfl (c_spec_l1In fu _ _ _  hx26) fun w28 e a k m => pN 1 k rfl fun a k => nn (cI h k rfl (fun hb29 h => ?_) fun hb29 h => ?_)))))
 · refine wr (sv k rfl (r_build bt120 k (ps := []) rfl rfl rfl) fun a k => s_stb (cs' := [.int .i64 0, .int .i64 0, .int .i64 0, .int .i64 0, .int .i64 0, .int .i64 0, .int .i64 0]) sizeOf120 m 0 hb23 0 k rfl rfl rfl rfl rfl rfl rfl rfl rfl rfl rfl fun w30 a k e m hb31 => pN 1 k rfl fun a k => nn (wp_ret (rt_then ?_)))
   cases h
   exact finR2 k rfl (RV.cA k rfl ta120 (hb31.at (m.a 0 rfl) 0 7 rfl rfl rfl) rfl) (RV.tmp k rfl) ⟨rfl, m.ext⟩
 refine wp_skip (nm_then ?_)
 refine wp_seq (d_go ([b22]) mixo m rfl fun w32 hMd => ?_)
 have m := hMd
 have s := Ext.refl (([b22]) : List Nat) w32
 refine dt k 0 rfl (by kernel_rfl) rfl s (fun _ _ _ => id) (fun w s => r_fa fa40_6 k rfl rfl) fun a k => dt k 1 rfl (by kernel_rfl) rfl s (fun _ _ _ => id) (fun w s => r_ld1 t138 (r := []) (hb20.at (hMd.az 1 0 rfl rfl rfl s) 9 1 rfl rfl rfl) k rfl rfl) fun a k => dp k 2 rfl (by kernel_rfl) rfl s (fun _ _ _ => id) rfl fun a k => dp k 3 rfl (by kernel_rfl) rfl s (fun _ _ _ => id) rfl fun a k => oE h fun x33 hx34 h => dt k 4 rfl (by kernel_rfl) rfl s (fun _ _ _ => id) (fun w s => r_ixa hp8 hx34 k ts29 rfl rfl rfl) fun a k => dt k 5 rfl (by kernel_rfl) rfl s (fun _ _ _ => id) (fun w s => r_lde1 hp8 (hMd.az0 0 rfl rfl (Enc.rd_lt hp8) s) hx34 0 t13 k rfl rfl rfl rfl) fun a k => oE h fun x35 hx36 h => dt k 6 rfl (by kernel_rfl) rfl s (fun _ _ _ => id) (fun w s => r_ixa hf18 hx36 k ts38 rfl rfl rfl) fun a k => ?_
 refine dt k 7 rfl (by kernel_rfl) rfl s (fun _ _ _ => id) (fun w s => r_lde hf18 (hMd.az0 0 rfl rfl (Enc.rd_lt hf18) s) hx36 ta120 k rfl rfl) fun a k => d_one 8 (by kernel_rfl) rfl (s_stb (cs' := [.int .i64 x35.fId, .int .i64 x35.fW, .int .i64 x35.fH, .int .i64 x35.fD, .int .i64 x35.fGram, .int .i64 x35.fClass, .int .i64 x35.fCount]) sizeOf120 m 0 hb23 0 k rfl rfl rfl rfl rfl rfl rfl rfl rfl rfl rfl fun w37 a k e m hb38 => ?_)
 have s := s.trans e (fun y hy => Or.inl hy)
 refine wpList_nil ⟨s, ?_⟩
 refine dp k 9 rfl (by kernel_rfl) rfl s (fun _ _ _ => id) rfl fun a k => d_done (by kernel_rfl) ((nm_then ?_))
 refine wp_ret ?_
 cases h
 exact finR2 k rfl (RV.cA k rfl ta120 (hb38.at (m.a 0 rfl) 0 7 rfl rfl rfl) rfl) (RV.tmp k rfl) ⟨rfl, m.ext⟩
theorem c_spec_Volume (fu : Nat) {w0 : World} (wv1 : Int) (h2 : Int) (d3 : Int)  {r : Int}
    (h : d_spec_Volume fu wv1 h2 d3 = some r) :
    Calls Tryz.prog 70 #[.int .i64 wv1, .int .i64 h2, .int .i64 d3] w0 fun e w => e = .returned (.int .i64 r) ∧ Ext [] w0 w := by
 refine enter (vs := [_, _, _]) func70 rfl ntmps70 rfl fun a k => ?_
 have m := St.start w0
 unfold d_spec_Volume at h
 refine wr (pN 1 k rfl fun a k => nn (c_cut (fun a w => K 25 [(0, .int .i64 wv1), (1, .int .i64 h2), (2, .int .i64 d3)] a ∧ St [] w0 w [] ∧ d_spec_Volume_J1 fu wv1 h2 d3 = some r) ?_ ?_))
 · rintro a w19 ⟨k, m, h⟩
   unfold d_spec_Volume_J1 at h
   refine wr (pN 6 k rfl fun a k => nn (wp_ret (fS h k m rfl rfl)))
 refine wr (pN 1 k rfl fun a k => oE h fun x20 hx21 h => cE k m call136 rfl rfl rfl (c_spec_l1In fu _ _ _  hx21) fun w23 e a k m => pN 2 k rfl fun a k => bsplit (!x20) (fun hb24 => ?_) (fun hb24 => ?_))
 · have h := bif_t hb24 h
   refine rB k 10 rfl hb24 fun k => pN 9 k rfl fun a k => nn (wp_cond_true (k.ev rfl) (wr (pN 1 k rfl fun a k => nn (wp_ret (rt_then ?_)))))
   refine fS h k m rfl rfl
 have h := bif_f hb24 h
 refine rB k 10 rfl hb24 fun k => pN 1 k rfl fun a k => oE h fun x25 hx26 h => cE k m call136 rfl rfl rfl (c_spec_l1In fu _ _ _  hx26) fun w28 e a k m => pN 3 k rfl fun a k => bsplit (!x25) (fun hb29 => ?_) (fun hb29 => ?_)
 · have h := bif_t hb29 h
   refine rB k 15 rfl hb29 fun k => pN 4 k rfl fun a k => nn (wp_cond_true (k.ev rfl) (wr (pN 1 k rfl fun a k => nn (wp_ret (rt_then ?_)))))
   refine fS h k m rfl rfl
 have h := bif_f hb29 h
 refine rB k 15 rfl hb29 fun k => pN 1 k rfl fun a k => oE h fun x30 hx31 h => cE k m call136 rfl rfl rfl (c_spec_l1In fu _ _ _  hx31) fun w33 e a k m => pN 2 k rfl fun a k => nn (cI h k rfl (fun hb34 h => ?_) fun hb34 h => ?_)
 · refine wr (pN 1 k rfl fun a k => nn (wp_ret (rt_then ?_)))
   refine fS h k m rfl rfl
 refine wp_skip (nm_then ?_)
 exact ⟨k.keep [0, 1, 2] rfl, m.sel [] rfl (by decide), h⟩
theorem c_spec_l7Of (fu : Nat) {w0 : World} (r1 : Request) (all5 : List Int) (units9 : List Int) {cs2 : List Value} {F3 : List Nat} (hp4 : rd w0 F3 cs2 r1) {v6 : Value} {F7 : List Nat} (hp8 : rd w0 F7 [v6] all5) {v10 : Value} {F11 : List Nat} (hp12 : rd w0 F11 [v10] units9) {r : L7}
    (h : d_spec_l7Of fu r1 all5 units9 = some r) :
    Calls Tryz.prog 156 #[.agg cs2.toArray, v6, v10] w0 fun e w => e = .returned (.agg (Flat.e r).toArray) ∧ Ext [] w0 w := by
 refine enter (vs := [_, _, _]) func156 rfl ntmps156 rfl fun a k => ?_
 have m := St.start w0
 obtain ⟨v13, F14, v15, F16, v17, F18, rfl, rfl, hf19, hf20, hf21⟩ := hp4
 unfold d_spec_l7Of at h
 refine wr (s_box (cs := [.int .i64 r1.fWay, .int .i64 r1.fPallet.fW, .int .i64 r1.fPallet.fD, .int .i64 r1.fPallet.fH, .int .i64 r1.fPallet.fGram, .int .i64 r1.fClasses, v13, v15, .int .i64 r1.fMaster, v17]) m k rfl rfl rfl rfl rfl rfl fun b22 w24 a k m e hb23 => s_alloc (cs := [.int .i64 0, .int .i64 0]) m k zeroValue163 rfl rfl rfl rfl rfl fun b25 w27 a k m e hb26 => nn (wr (sv k rfl (r_build bt163 k (ps := []) rfl rfl rfl) fun a k => s_alloc (cs := [.int .i64 0, .int .i64 0]) m k zeroValue163 rfl rfl rfl rfl rfl fun b28 w30 a k m e hb29 => s_stb (cs' := [.int .i64 0, .int .i64 0]) sizeOf163 m 0 hb29 0 k rfl rfl rfl rfl rfl rfl rfl rfl rfl rfl rfl fun w31 a k e m hb32 => nn (wp_seq (wr (pN 1 k rfl fun a k => nn (wp_block ?_)))))))
 refine c_loop (fun n a w => ∃ (l340 : L7) (u338 : World) (i341 : Int), K 46 [(1, v6), (2, v10), (3, .pointer (some (⟨b22, 0, none⟩ : Addr))), (6, .pointer (some (⟨b25, 0, none⟩ : Addr))), (7, .pointer (some (⟨b28, 0, none⟩ : Addr))), (8, .int .i64 i341)] a ∧ St [] w0 w [([b22], w24), ([b25], w27), ([b28], u338)] ∧ bx u338 b28 [.int .i64 l340.fvol, .int .i64 l340.fgram] 163 ∧ d_spec_l7Of_L1 fu r1 all5 units9 n l340 i341 = some r) ?_ ?_ fu _ _ ?_
 · rintro a w ⟨_, _, _, _, _, _, h⟩
   exact nS h
 · rintro m342 a w337 ⟨l340, u338, i341, k, m, hb339, h⟩
   rw [d_spec_l7Of_L1_s] at h
   unfold d_spec_l7Of_L1_B at h
   refine wp_seq (wr (pN 2 k rfl fun a k => sv k rfl (r_len (α := Int) hp12 k underlying29 rfl rfl) fun a k => pN 1 k rfl fun a k => nn (cI h k rfl (fun hb343 h => ?_) fun hb343 h => ?_)))
   · refine wp_skip (nm_then ?_)
     refine c_cut (fun a w => ∃ (l419 : L7) (u417 : World), K 46 [(1, v6), (2, v10), (3, .pointer (some (⟨b22, 0, none⟩ : Addr))), (6, .pointer (some (⟨b25, 0, none⟩ : Addr))), (7, .pointer (some (⟨b28, 0, none⟩ : Addr))), (8, .int .i64 i341)] a ∧ St [] w0 w [([b22], w24), ([b25], w27), ([b28], u417)] ∧ bx u417 b28 [.int .i64 l419.fvol, .int .i64 l419.fgram] 163 ∧ d_spec_l7Of_J1 fu (d_spec_l7Of_L1 fu r1 all5 units9 m342) i341 l419 = some r) ?_ ?_
     · rintro a w416 ⟨l419, u417, k, m, hb418, h⟩
       unfold d_spec_l7Of_J1 at h
       refine wp_region_lit (pN 3 k rfl fun a k => nn ?_)
       exact ⟨l419, u417, w64 (i341 + 1), k.keep [1, 2, 3, 6, 7, 8] rfl, m.sel [0, 1, 2] rfl (by decide), hb418, h⟩
     refine wp_block (c_cut (fun a w => ∃ (i449 : Item) (b446 : Nat) (u447 : World), K 46 [(1, v6), (2, v10), (3, .pointer (some (⟨b22, 0, none⟩ : Addr))), (6, .pointer (some (⟨b25, 0, none⟩ : Addr))), (7, .pointer (some (⟨b28, 0, none⟩ : Addr))), (8, .int .i64 i341), (9, .pointer (some (⟨b446, 0, none⟩ : Addr)))] a ∧ St [] w0 w [([b22], w24), ([b25], w27), ([b28], u338), ([b446], u447)] ∧ bx u447 b446 [.int .i64 i449.fId, .int .i64 i449.fW, .int .i64 i449.fH, .int .i64 i449.fD, .int .i64 i449.fGram, .int .i64 i449.fClass, .int .i64 i449.fCount] 120 ∧ d_spec_l7Of_J2 fu (d_spec_l7Of_L1 fu r1 all5 units9 m342) l340 i341 i449 = some r) ?_ ?_)
     · rintro a w445 ⟨i449, b446, u447, k, m, hb448, h⟩
       unfold d_spec_l7Of_J2 at h
       refine wp_seq (d_go ([b28]) mixo m rfl fun w450 hMd => ?_)
       have m := hMd
       have s := Ext.refl (([b28]) : List Nat) w450
       refine dt k 0 rfl (by kernel_rfl) rfl s (fun _ _ _ => id) (fun w s => r_fa fa163_0 k rfl rfl) fun a k => dt k 2 rfl (by kernel_rfl) rfl s (fun _ _ _ => id) (fun w s => r_fa fa120_1 k rfl rfl) fun a k => dt k 3 rfl (by kernel_rfl) rfl s (fun _ _ _ => id) (fun w s => r_ld1 t13 (r := []) (hb448.at (hMd.az 3 2 rfl rfl rfl s) 1 1 rfl rfl rfl) k rfl rfl) fun a k => dt k 4 rfl (by kernel_rfl) rfl s (fun _ _ _ => id) (fun w s => r_fa fa120_2 k rfl rfl) fun a k => dt k 5 rfl (by kernel_rfl) rfl s (fun _ _ _ => id) (fun w s => r_ld1 t13 (r := []) (hb448.at (hMd.az 3 2 rfl rfl rfl s) 2 1 rfl rfl rfl) k rfl rfl) fun a k => dt k 6 rfl (by kernel_rfl) rfl s (fun _ _ _ => id) (fun w s => r_fa fa120_3 k rfl rfl) fun a k => ?_
       refine dt k 7 rfl (by kernel_rfl) rfl s (fun _ _ _ => id) (fun w s => r_ld1 t13 (r := []) (hb448.at (hMd.az 3 2 rfl rfl rfl s) 3 1 rfl rfl rfl) k rfl rfl) fun a k => d_two 1 8 (by kernel_rfl) rfl rfl ?_ ?_ 
       · refine sv k rfl (r_ldb t13 m 2 hb339 0 k rfl rfl rfl rfl rfl) fun a k => wpList_nil ⟨s, ?_⟩
         refine d_one 8 (by kernel_rfl) rfl (oE h fun x451 hx452 h => cE k m call70 rfl rfl rfl (c_spec_Volume fu _ _ _  hx452) fun w454 e a k m => ?_)
         have s := s.trans e (by simp)
         refine wpList_nil ⟨s, ?_⟩
         refine dp k 9 rfl (by kernel_rfl) rfl s (fun _ _ _ => id) rfl fun a k => dt k 10 rfl (by kernel_rfl) rfl s (fun _ _ _ => id) (fun w s => r_fa fa163_0 k rfl rfl) fun a k => d_one 11 (by kernel_rfl) rfl (s_stb (cs' := [.int .i64 (w64 (l340.fvol + x451)), .int .i64 l340.fgram]) sizeOf3 m 2 hb339 0 k rfl rfl rfl rfl rfl rfl rfl rfl rfl rfl rfl fun w455 a k e m hb456 => ?_)
         have s := s.trans e (fun y hy => Or.inl hy)
         refine wpList_nil ⟨s, ?_⟩
         refine d_done (by kernel_rfl) ((nm_then ?_))
         refine wp_region_lit (sv k rfl (r_fa fa163_1 k rfl rfl) fun a k => sv k rfl (r_ldb t13 m 2 hb456 1 k rfl rfl rfl rfl rfl) fun a k => sv k rfl (r_fa fa120_4 k rfl rfl) fun a k => sv k rfl (r_ldb t13 m 3 hb448 4 k rfl rfl rfl rfl rfl) fun a k => pN 1 k rfl fun a k => sv k rfl (r_fa fa163_1 k rfl rfl) fun a k => s_stb (cs' := [.int .i64 (w64 (l340.fvol + x451)), .int .i64 (w64 (l340.fgram + i449.fGram))]) sizeOf3 m 2 hb456 1 k rfl rfl rfl rfl rfl rfl rfl rfl rfl rfl rfl fun w457 a k e m hb458 => wpList_nil (nm_block (nm_then ?_)))
         exact ⟨(⟨w64 (l340.fvol + x451), w64 (l340.fgram + i449.fGram)⟩ : L7), w457, k.keep [1, 2, 3, 6, 7, 8] rfl, m.sel [0, 1, 2] rfl (by decide), hb458, h⟩
       refine oE h fun x459 hx460 h => cE k m call70 rfl rfl rfl (c_spec_Volume fu _ _ _  hx460) fun w462 e a k m => ?_
       have s := s.trans e (by simp)
       refine wpList_nil ⟨s, ?_⟩
       refine d_one 1 (by kernel_rfl) rfl (sv k rfl (r_ldb t13 m 2 hb339 0 k rfl rfl rfl rfl rfl) fun a k => wpList_nil ⟨s, ?_⟩)
       refine dp k 9 rfl (by kernel_rfl) rfl s (fun _ _ _ => id) rfl fun a k => dt k 10 rfl (by kernel_rfl) rfl s (fun _ _ _ => id) (fun w s => r_fa fa163_0 k rfl rfl) fun a k => d_one 11 (by kernel_rfl) rfl (s_stb (cs' := [.int .i64 (w64 (l340.fvol + x459)), .int .i64 l340.fgram]) sizeOf3 m 2 hb339 0 k rfl rfl rfl rfl rfl rfl rfl rfl rfl rfl rfl fun w463 a k e m hb464 => ?_)
       have s := s.trans e (fun y hy => Or.inl hy)
       refine wpList_nil ⟨s, ?_⟩
       refine d_done (by kernel_rfl) ((nm_then ?_))
       refine wp_region_lit (sv k rfl (r_fa fa163_1 k rfl rfl) fun a k => sv k rfl (r_ldb t13 m 2 hb464 1 k rfl rfl rfl rfl rfl) fun a k => sv k rfl (r_fa fa120_4 k rfl rfl) fun a k => sv k rfl (r_ldb t13 m 3 hb448 4 k rfl rfl rfl rfl rfl) fun a k => pN 1 k rfl fun a k => sv k rfl (r_fa fa163_1 k rfl rfl) fun a k => s_stb (cs' := [.int .i64 (w64 (l340.fvol + x459)), .int .i64 (w64 (l340.fgram + i449.fGram))]) sizeOf3 m 2 hb464 1 k rfl rfl rfl rfl rfl rfl rfl rfl rfl rfl rfl fun w465 a k e m hb466 => wpList_nil (nm_block (nm_then ?_)))
       exact ⟨(⟨w64 (l340.fvol + x459), w64 (l340.fgram + i449.fGram)⟩ : L7), w465, k.keep [1, 2, 3, 6, 7, 8] rfl, m.sel [0, 1, 2] rfl (by decide), hb466, h⟩
     refine d_go [] mixo m rfl fun w467 hMd => ?_
     have m := hMd
     have s := Ext.refl ([] : List Nat) w467
     refine dt k 0 rfl (by kernel_rfl) rfl s (fun _ _ _ => id) (fun w s => r_ldA ta40 (hb23.at ((hMd.step s).a 0 rfl) 0 10 rfl rfl rfl) rfl k rfl rfl) fun a k => dp k 1 rfl (by kernel_rfl) rfl s (fun _ _ _ => id) rfl fun a k => dp k 2 rfl (by kernel_rfl) rfl s (fun _ _ _ => id) rfl fun a k => dp k 3 rfl (by kernel_rfl) rfl s (fun _ _ _ => id) rfl fun a k => oE h fun x468 hx469 h => dt k 4 rfl (by kernel_rfl) rfl s (fun _ _ _ => id) (fun w s => r_ixa hp12 hx469 k ts29 rfl rfl rfl) fun a k => dt k 5 rfl (by kernel_rfl) rfl s (fun _ _ _ => id) (fun w s => r_lde1 hp12 ((hMd.step s).a00 (Enc.rd_lt hp12)) hx469 0 t13 k rfl rfl rfl rfl) fun a k => d_two 6 10 (by kernel_rfl) rfl rfl ?_ ?_ 
     · refine oE h fun x470 hx471 h => cE k m call102 rfl rfl rfl (c_spec_l6Item fu _ _ _ (show rd _ _ [.int .i64 r1.fWay, .int .i64 r1.fPallet.fW, .int .i64 r1.fPallet.fD, .int .i64 r1.fPallet.fH, .int .i64 r1.fPallet.fGram, .int .i64 r1.fClasses, v13, v15, .int .i64 r1.fMaster, v17] (r1 : Request) from ⟨_, _, _, _, _, _, rfl, rfl, (Enc.rd_agr hf19 (m.a00 (Enc.rd_lt hf19))), (Enc.rd_agr hf20 (m.a00 (Enc.rd_lt hf20))), (Enc.rd_agr hf21 (m.a00 (Enc.rd_lt hf21)))⟩) (Enc.rd_agr hp8 (m.a00 (Enc.rd_lt hp8))) hx471) fun w473 e a k m => ?_
       have s := s.trans e (by simp)
       refine wpList_nil ⟨s, ?_⟩
       refine dp k 7 rfl (by kernel_rfl) rfl s (fun _ _ _ => id) rfl fun a k => dp k 8 rfl (by kernel_rfl) rfl s (fun _ _ _ => id) rfl fun a k => dp k 9 rfl (by kernel_rfl) rfl s (fun _ _ _ => id) rfl fun a k => d_one 10 (by kernel_rfl) rfl (s_allocN (cs := [.int .i64 0, .int .i64 0, .int .i64 0, .int .i64 0, .int .i64 0, .int .i64 0, .int .i64 0]) m k zeroValue120 rfl rfl rfl rfl rfl fun b474 w476 a k m e hb475 hbn477 => ?_)
       have hlo478 := lo1 (Nat.le_trans s.size hbn477)
       have s := s.trans e (by simp)
       refine wpList_nil ⟨s, ?_⟩
       refine d_one 11 (by kernel_rfl) rfl (s_stb (cs' := [.int .i64 x470.1.fId, .int .i64 x470.1.fW, .int .i64 x470.1.fH, .int .i64 x470.1.fD, .int .i64 x470.1.fGram, .int .i64 x470.1.fClass, .int .i64 x470.1.fCount]) sizeOf120 m 0 hb475 0 k rfl rfl rfl rfl rfl rfl rfl rfl rfl rfl rfl fun w479 a k e m hb480 => ?_)
       have s := s.trans e (fun y hy => Or.inr (hlo478 y hy))
       refine wpList_nil ⟨s, ?_⟩
       refine dp k 12 rfl (by kernel_rfl) rfl s (fun _ _ _ => id) rfl fun a k => d_done (by kernel_rfl) ((nm_then ?_))
       exact ⟨x470.1, b474, w479, k.keep [1, 2, 3, 6, 7, 8, 9] rfl, m.sel [1, 2, 3, 0] rfl (by decide), hb480, h⟩
     refine s_allocN (cs := [.int .i64 0, .int .i64 0, .int .i64 0, .int .i64 0, .int .i64 0, .int .i64 0, .int .i64 0]) m k zeroValue120 rfl rfl rfl rfl rfl fun b481 w483 a k m e hb482 hbn484 => ?_
     have hlo485 := lo1 (Nat.le_trans s.size hbn484)
     have s := s.trans e (by simp)
     refine wpList_nil ⟨s, ?_⟩
     refine d_one 6 (by kernel_rfl) rfl (oE h fun x486 hx487 h => cE k m call102 rfl rfl rfl (c_spec_l6Item fu _ _ _ (show rd _ _ [.int .i64 r1.fWay, .int .i64 r1.fPallet.fW, .int .i64 r1.fPallet.fD, .int .i64 r1.fPallet.fH, .int .i64 r1.fPallet.fGram, .int .i64 r1.fClasses, v13, v15, .int .i64 r1.fMaster, v17] (r1 : Request) from ⟨_, _, _, _, _, _, rfl, rfl, (Enc.rd_agr hf19 (m.a00 (Enc.rd_lt hf19))), (Enc.rd_agr hf20 (m.a00 (Enc.rd_lt hf20))), (Enc.rd_agr hf21 (m.a00 (Enc.rd_lt hf21)))⟩) (Enc.rd_agr hp8 (m.a00 (Enc.rd_lt hp8))) hx487) fun w489 e a k m => ?_)
     have s := s.trans e (by simp)
     refine wpList_nil ⟨s, ?_⟩
     refine dp k 7 rfl (by kernel_rfl) rfl s (fun _ _ _ => id) rfl fun a k => dp k 8 rfl (by kernel_rfl) rfl s (fun _ _ _ => id) rfl fun a k => dp k 9 rfl (by kernel_rfl) rfl s (fun _ _ _ => id) rfl fun a k => d_one 11 (by kernel_rfl) rfl (s_stb (cs' := [.int .i64 x486.1.fId, .int .i64 x486.1.fW, .int .i64 x486.1.fH, .int .i64 x486.1.fD, .int .i64 x486.1.fGram, .int .i64 x486.1.fClass, .int .i64 x486.1.fCount]) sizeOf120 m 0 hb482 0 k rfl rfl rfl rfl rfl rfl rfl rfl rfl rfl rfl fun w490 a k e m hb491 => ?_)
     have s := s.trans e (fun y hy => Or.inr (hlo485 y hy))
     refine wpList_nil ⟨s, ?_⟩
     refine dp k 12 rfl (by kernel_rfl) rfl s (fun _ _ _ => id) rfl fun a k => d_done (by kernel_rfl) ((nm_then ?_))
     exact ⟨x486.1, b481, w490, k.keep [1, 2, 3, 6, 7, 8, 9] rfl, m.sel [1, 2, 3, 0] rfl (by decide), hb491, h⟩
   refine wp_exit (ex_then (ex_then (ex_same (nm_then ?_))))
   refine wr (sv k rfl (r_ldB ta163 m 2 hb339 0 k rfl rfl rfl rfl rfl rfl) fun a k => s_stb (cs' := [.int .i64 l340.fvol, .int .i64 l340.fgram]) sizeOf163 m 1 hb26 0 k rfl rfl rfl rfl rfl rfl rfl rfl rfl rfl rfl fun w492 a k e m hb493 => nn (wp_ret ?_))
   cases h
   exact finR1 k rfl (RV.cA k rfl ta163 (hb493.at (m.a 1 rfl) 0 2 rfl rfl rfl) rfl) ⟨rfl, m.ext⟩
 exact ⟨(⟨0, 0⟩ : L7), w31, 0, k.keep [1, 2, 3, 6, 7, 8] rfl, m.sel [2, 1, 0] rfl (by decide), hb32, h⟩

end Go.Proofs.YthjbcfefkdbgoaaGreat
