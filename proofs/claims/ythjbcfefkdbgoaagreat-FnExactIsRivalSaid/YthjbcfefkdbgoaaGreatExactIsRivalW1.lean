/- FnExactIsRival: the walks of functions that the law reaches, part 1. Printed by gen.py. -/
import Derived.Test.YthjbcfefkdbgoaaGreatS9
import Derived.Test.YthjbcfefkdbgoaaGreatS12
import Derived.Test.YthjbcfefkdbgoaaGreatS15
import Derived.Test.YthjbcfefkdbgoaaGreatProg
import Derived.Test.YthjbcfefkdbgoaaGreatS13
import Derived.Test.YthjbcfefkdbgoaaGreatShelf
set_option maxRecDepth 20000
set_option linter.unusedSimpArgs false
set_option linter.unusedVariables false
namespace Go.Proofs.YthjbcfefkdbgoaaGreat
open Go Go.RowKit
open Enc (rd ow)
open Arg (argv)
open Ret (retv)
open Go.Proofs.Tryz

theorem mixo : Tryz.prog.follows .mixedOrders = true := by kernel_rfl
theorem fa28_3 : FA Tryz.prog 28 3 6 := fa_of (n := 0) underlying28 rfl rfl sizeOf24
theorem t124 : T1 Tryz.prog 24 := ⟨fun w => by simp [isAgg, run_underlying underlying24], sizeOf24⟩
theorem fa28_4 : FA Tryz.prog 28 4 7 := fa_of (n := 0) underlying28 rfl rfl sizeOf25
theorem t125 : T1 Tryz.prog 25 := ⟨fun w => by simp [isAgg, run_underlying underlying25], sizeOf25⟩
theorem fa28_6 : FA Tryz.prog 28 6 9 := fa_of (n := 0) underlying28 rfl rfl sizeOf26
theorem t126 : T1 Tryz.prog 26 := ⟨fun w => by simp [isAgg, run_underlying underlying26], sizeOf26⟩
theorem ts47 : TS Tryz.prog 47 1 := ⟨29, underlying47, sizeOf29⟩
theorem t129 : T1 Tryz.prog 29 := ⟨fun w => by simp [isAgg, run_underlying underlying29], sizeOf29⟩
theorem fa23_0 : FA Tryz.prog 23 0 0 := fa_of (n := 0) underlying23 rfl rfl sizeOf3
theorem t13 : T1 Tryz.prog 3 := ⟨fun w => by simp [isAgg, run_underlying underlying3], sizeOf3⟩
theorem fa35_0 : FA Tryz.prog 35 0 0 := fa_of (n := 0) underlying35 rfl rfl sizeOf3
theorem fa23_1 : FA Tryz.prog 23 1 1 := fa_of (n := 0) underlying23 rfl rfl sizeOf3
theorem fa35_1 : FA Tryz.prog 35 1 1 := fa_of (n := 0) underlying35 rfl rfl sizeOf3
theorem fa23_2 : FA Tryz.prog 23 2 2 := fa_of (n := 0) underlying23 rfl rfl sizeOf3
theorem fa35_2 : FA Tryz.prog 35 2 2 := fa_of (n := 0) underlying35 rfl rfl sizeOf3
theorem fa23_3 : FA Tryz.prog 23 3 3 := fa_of (n := 0) underlying23 rfl rfl sizeOf3
theorem fa35_3 : FA Tryz.prog 35 3 3 := fa_of (n := 0) underlying35 rfl rfl sizeOf3
theorem ta35 : TA Tryz.prog 35 4 := ⟨Tryz.isAgg35, sizeOf35⟩
theorem fa146_0 : FA Tryz.prog 146 0 0 := fa_of (n := 0) underlying146 rfl rfl sizeOf3
theorem fa144_0 : FA Tryz.prog 144 0 0 := fa_of (n := 0) underlying144 rfl rfl sizeOf3
theorem fa146_1 : FA Tryz.prog 146 1 1 := fa_of (n := 0) underlying146 rfl rfl sizeOf3
theorem fa144_1 : FA Tryz.prog 144 1 1 := fa_of (n := 0) underlying144 rfl rfl sizeOf3
theorem ta144 : TA Tryz.prog 144 2 := ⟨Tryz.isAgg144, sizeOf144⟩
theorem te36 : TE Tryz.prog 36 2 16 [.int .i64 0, .int .i64 0] := ⟨144, Tryz.t144, underlying36, Tryz.type144, ⟨_, rfl, rfl⟩, rfl, rfl, rfl, by decide⟩
theorem ts24 : TS Tryz.prog 24 2 := ⟨146, underlying24, sizeOf146⟩
theorem ta146 : TA Tryz.prog 146 2 := ⟨Tryz.isAgg146, sizeOf146⟩
theorem ts36 : TS Tryz.prog 36 2 := ⟨144, underlying36, sizeOf144⟩
theorem fa148_0 : FA Tryz.prog 148 0 0 := fa_of (n := 0) underlying148 rfl rfl sizeOf3
theorem fa92_0 : FA Tryz.prog 92 0 0 := fa_of (n := 0) underlying92 rfl rfl sizeOf3
theorem fa148_1 : FA Tryz.prog 148 1 1 := fa_of (n := 0) underlying148 rfl rfl sizeOf3
theorem fa92_1 : FA Tryz.prog 92 1 1 := fa_of (n := 0) underlying92 rfl rfl sizeOf3
theorem fa148_2 : FA Tryz.prog 148 2 2 := fa_of (n := 0) underlying148 rfl rfl sizeOf3
theorem fa92_2 : FA Tryz.prog 92 2 2 := fa_of (n := 0) underlying92 rfl rfl sizeOf3
theorem fa148_3 : FA Tryz.prog 148 3 3 := fa_of (n := 0) underlying148 rfl rfl sizeOf3
theorem fa92_3 : FA Tryz.prog 92 3 3 := fa_of (n := 0) underlying92 rfl rfl sizeOf3
theorem fa148_4 : FA Tryz.prog 148 4 4 := fa_of (n := 0) underlying148 rfl rfl sizeOf3
theorem fa92_4 : FA Tryz.prog 92 4 4 := fa_of (n := 0) underlying92 rfl rfl sizeOf3
theorem fa148_5 : FA Tryz.prog 148 5 5 := fa_of (n := 0) underlying148 rfl rfl sizeOf3
theorem fa92_5 : FA Tryz.prog 92 5 5 := fa_of (n := 0) underlying92 rfl rfl sizeOf3
theorem fa148_6 : FA Tryz.prog 148 6 6 := fa_of (n := 0) underlying148 rfl rfl sizeOf3
theorem fa92_6 : FA Tryz.prog 92 6 6 := fa_of (n := 0) underlying92 rfl rfl sizeOf3
theorem ta92 : TA Tryz.prog 92 7 := ⟨Tryz.isAgg92, sizeOf92⟩
theorem te37 : TE Tryz.prog 37 7 56 [.int .i64 0, .int .i64 0, .int .i64 0, .int .i64 0, .int .i64 0, .int .i64 0, .int .i64 0] := ⟨92, Tryz.t92, underlying37, Tryz.type92, ⟨_, rfl, rfl⟩, rfl, rfl, rfl, by decide⟩
theorem ts25 : TS Tryz.prog 25 7 := ⟨148, underlying25, sizeOf148⟩
theorem ta148 : TA Tryz.prog 148 7 := ⟨Tryz.isAgg148, sizeOf148⟩
theorem ts37 : TS Tryz.prog 37 7 := ⟨92, underlying37, sizeOf92⟩
theorem fa150_0 : FA Tryz.prog 150 0 0 := fa_of (n := 0) underlying150 rfl rfl sizeOf3
theorem fa120_0 : FA Tryz.prog 120 0 0 := fa_of (n := 0) underlying120 rfl rfl sizeOf3
theorem fa150_1 : FA Tryz.prog 150 1 1 := fa_of (n := 0) underlying150 rfl rfl sizeOf3
theorem fa120_1 : FA Tryz.prog 120 1 1 := fa_of (n := 0) underlying120 rfl rfl sizeOf3
theorem fa150_2 : FA Tryz.prog 150 2 2 := fa_of (n := 0) underlying150 rfl rfl sizeOf3
theorem fa120_2 : FA Tryz.prog 120 2 2 := fa_of (n := 0) underlying120 rfl rfl sizeOf3
theorem fa150_3 : FA Tryz.prog 150 3 3 := fa_of (n := 0) underlying150 rfl rfl sizeOf3
theorem fa120_3 : FA Tryz.prog 120 3 3 := fa_of (n := 0) underlying120 rfl rfl sizeOf3
theorem fa150_4 : FA Tryz.prog 150 4 4 := fa_of (n := 0) underlying150 rfl rfl sizeOf3
theorem fa120_4 : FA Tryz.prog 120 4 4 := fa_of (n := 0) underlying120 rfl rfl sizeOf3
theorem fa150_5 : FA Tryz.prog 150 5 5 := fa_of (n := 0) underlying150 rfl rfl sizeOf3
theorem fa120_5 : FA Tryz.prog 120 5 5 := fa_of (n := 0) underlying120 rfl rfl sizeOf3
theorem fa150_6 : FA Tryz.prog 150 6 6 := fa_of (n := 0) underlying150 rfl rfl sizeOf3
theorem fa120_6 : FA Tryz.prog 120 6 6 := fa_of (n := 0) underlying120 rfl rfl sizeOf3
theorem ta120 : TA Tryz.prog 120 7 := ⟨Tryz.isAgg120, sizeOf120⟩
theorem te38 : TE Tryz.prog 38 7 56 [.int .i64 0, .int .i64 0, .int .i64 0, .int .i64 0, .int .i64 0, .int .i64 0, .int .i64 0] := ⟨120, Tryz.t120, underlying38, Tryz.type120, ⟨_, rfl, rfl⟩, rfl, rfl, rfl, by decide⟩
theorem ts26 : TS Tryz.prog 26 7 := ⟨150, underlying26, sizeOf150⟩
theorem ta150 : TA Tryz.prog 150 7 := ⟨Tryz.isAgg150, sizeOf150⟩
theorem ts38 : TS Tryz.prog 38 7 := ⟨120, underlying38, sizeOf120⟩
theorem fa28_0 : FA Tryz.prog 28 0 0 := fa_of (n := 0) underlying28 rfl rfl sizeOf3
theorem fa40_0 : FA Tryz.prog 40 0 0 := fa_of (n := 0) underlying40 rfl rfl sizeOf3
theorem fa28_1 : FA Tryz.prog 28 1 1 := fa_of (n := 3) underlying28 rfl rfl sizeOf23
theorem ta23 : TA Tryz.prog 23 4 := ⟨Tryz.isAgg23, sizeOf23⟩
theorem fa40_1 : FA Tryz.prog 40 1 1 := fa_of (n := 3) underlying40 rfl rfl sizeOf35
theorem fa28_2 : FA Tryz.prog 28 2 5 := fa_of (n := 0) underlying28 rfl rfl sizeOf3
theorem fa40_2 : FA Tryz.prog 40 2 5 := fa_of (n := 0) underlying40 rfl rfl sizeOf3
theorem fa40_3 : FA Tryz.prog 40 3 6 := fa_of (n := 0) underlying40 rfl rfl sizeOf36
theorem fa40_4 : FA Tryz.prog 40 4 7 := fa_of (n := 0) underlying40 rfl rfl sizeOf37
theorem fa28_5 : FA Tryz.prog 28 5 8 := fa_of (n := 0) underlying28 rfl rfl sizeOf3
theorem fa40_5 : FA Tryz.prog 40 5 8 := fa_of (n := 0) underlying40 rfl rfl sizeOf3
theorem fa40_6 : FA Tryz.prog 40 6 9 := fa_of (n := 0) underlying40 rfl rfl sizeOf38
theorem ta40 : TA Tryz.prog 40 10 := ⟨Tryz.isAgg40, sizeOf40⟩
theorem te29 : TE Tryz.prog 29 1 8 [.int .i64 0] := ⟨3, Tryz.t3, underlying29, Tryz.type3, ⟨_, rfl, rfl⟩, rfl, rfl, rfl, by decide⟩
theorem ts29 : TS Tryz.prog 29 1 := ⟨3, underlying29, sizeOf3⟩
theorem te47 : TE Tryz.prog 47 1 24 [.slice none 0 0] := ⟨29, Tryz.t29, underlying47, Tryz.type29, ⟨_, rfl, rfl⟩, rfl, rfl, rfl, by decide⟩
theorem t136 : T1 Tryz.prog 36 := ⟨fun w => by simp [isAgg, run_underlying underlying36], sizeOf36⟩
theorem t137 : T1 Tryz.prog 37 := ⟨fun w => by simp [isAgg, run_underlying underlying37], sizeOf37⟩
theorem t138 : T1 Tryz.prog 38 := ⟨fun w => by simp [isAgg, run_underlying underlying38], sizeOf38⟩
theorem bt92 : BT Tryz.prog 92 [.int .i64 0, .int .i64 0, .int .i64 0, .int .i64 0, .int .i64 0, .int .i64 0, .int .i64 0] #[(0, 1), (1, 1), (2, 1), (3, 1), (4, 1), (5, 1), (6, 1)] := ⟨zeroValue92, _, underlying92, fun w => by simp [sizeOf3]⟩

def d_laws_szPairS (fu : Nat) (a1 : List Pair) (left5 : Int) : Option (Int) :=
  bif (decide ((w64 (left5 - ((a1.length : Int)))) < 0)) then some ((-1)) else some (w64 (left5 - ((a1.length : Int))))

def d_laws_szTypeS (fu : Nat) (a1 : List Typ) (left5 : Int) : Option (Int) :=
  bif (decide ((w64 (left5 - ((a1.length : Int)))) < 0)) then some ((-1)) else some (w64 (left5 - ((a1.length : Int))))

def d_laws_szItemS (fu : Nat) (a1 : List Item) (left5 : Int) : Option (Int) :=
  bif (decide ((w64 (left5 - ((a1.length : Int)))) < 0)) then some ((-1)) else some (w64 (left5 - ((a1.length : Int))))

def d_laws_szRequest (fu : Nat) (a1 : Request) (left5 : Int) : Option (Int) :=
  obind (d_laws_szPairS fu a1.fPairs left5) fun x18 => bif (decide (x18 < 0)) then some ((-1)) else obind (d_laws_szTypeS fu a1.fTypes x18) fun x23 => bif (decide (x23 < 0)) then some ((-1)) else obind (d_laws_szItemS fu a1.fItems x23) fun x28 => bif (decide (x28 < 0)) then some ((-1)) else some (x28)

def d_laws_szIntS (fu : Nat) (a1 : List Int) (left5 : Int) : Option (Int) :=
  bif (decide ((w64 (left5 - ((a1.length : Int)))) < 0)) then some ((-1)) else some (w64 (left5 - ((a1.length : Int))))

def d_laws_szIntSS_L1_B (fu : Nat)  (a1 : List (List Int)) (k1 : Int → Int → Option (Int)) (left42 : Int) (i43 : Int) : Option (Int) :=
  bif (decide (i43 < ((a1.length : Int)))) then obind (ix a1 i43) fun x46 => obind (d_laws_szIntS fu x46 left42) fun x55 => bif (decide (x55 < 0)) then some ((-1)) else k1 x55 (w64 (i43 + 1)) else some (left42)
def d_laws_szIntSS_L1 (fu : Nat)  (a1 : List (List Int)) : Nat → Int → Int → Option (Int)
  | 0 => fun _ _ => none
  | n + 1 => d_laws_szIntSS_L1_B fu a1 (d_laws_szIntSS_L1 fu a1 n)
theorem d_laws_szIntSS_L1_s (fu : Nat)  (a1 : List (List Int)) (n : Nat) : d_laws_szIntSS_L1 fu a1 (n + 1) = d_laws_szIntSS_L1_B fu a1 (d_laws_szIntSS_L1 fu a1 n) := rfl

def d_laws_szIntSS (fu : Nat) (a1 : List (List Int)) (left5 : Int) : Option (Int) :=
  bif (decide ((w64 (left5 - ((a1.length : Int)))) < 0)) then some ((-1)) else d_laws_szIntSS_L1 fu a1 fu (w64 (left5 - ((a1.length : Int)))) 0

def d_laws_toPallet (fu : Nat) (a1 : Pallet) : Option (Pallet) :=
  some (a1)

def d_laws_toPair (fu : Nat) (a1 : Pair) : Option (Pair) :=
  some (a1)

def d_laws_toPairS_L1_B (fu : Nat)  (a1 : List Pair) (k1 : List Pair → Int → Option ((List Pair))) (out42 : List Pair) (i47 : Int) : Option ((List Pair)) :=
  bif (decide (i47 < ((a1.length : Int)))) then obind (ix a1 i47) fun x50 => obind (d_laws_toPair fu x50) fun x52 => obind (ix out42 i47) fun x56 => k1 (setx out42 i47 x52) (w64 (i47 + 1)) else some (out42)
def d_laws_toPairS_L1 (fu : Nat)  (a1 : List Pair) : Nat → List Pair → Int → Option ((List Pair))
  | 0 => fun _ _ => none
  | n + 1 => d_laws_toPairS_L1_B fu a1 (d_laws_toPairS_L1 fu a1 n)
theorem d_laws_toPairS_L1_s (fu : Nat)  (a1 : List Pair) (n : Nat) : d_laws_toPairS_L1 fu a1 (n + 1) = d_laws_toPairS_L1_B fu a1 (d_laws_toPairS_L1 fu a1 n) := rfl

def d_laws_toPairS (fu : Nat) (a1 : List Pair) : Option ((List Pair)) :=
  obind (mk 16 (⟨(0 : Int), (0 : Int)⟩ : Pair) ((a1.length : Int))) fun x5 => d_laws_toPairS_L1 fu a1 fu x5 0

def d_laws_toType (fu : Nat) (a1 : Typ) : Option (Typ) :=
  some (a1)

def d_laws_toTypeS_L1_B (fu : Nat)  (a1 : List Typ) (k1 : List Typ → Int → Option ((List Typ))) (out42 : List Typ) (i47 : Int) : Option ((List Typ)) :=
  bif (decide (i47 < ((a1.length : Int)))) then obind (ix a1 i47) fun x50 => obind (d_laws_toType fu x50) fun x52 => obind (ix out42 i47) fun x56 => k1 (setx out42 i47 x52) (w64 (i47 + 1)) else some (out42)
def d_laws_toTypeS_L1 (fu : Nat)  (a1 : List Typ) : Nat → List Typ → Int → Option ((List Typ))
  | 0 => fun _ _ => none
  | n + 1 => d_laws_toTypeS_L1_B fu a1 (d_laws_toTypeS_L1 fu a1 n)
theorem d_laws_toTypeS_L1_s (fu : Nat)  (a1 : List Typ) (n : Nat) : d_laws_toTypeS_L1 fu a1 (n + 1) = d_laws_toTypeS_L1_B fu a1 (d_laws_toTypeS_L1 fu a1 n) := rfl

def d_laws_toTypeS (fu : Nat) (a1 : List Typ) : Option ((List Typ)) :=
  obind (mk 56 (⟨(0 : Int), (0 : Int), (0 : Int), (0 : Int), (0 : Int), (0 : Int), (0 : Int)⟩ : Typ) ((a1.length : Int))) fun x5 => d_laws_toTypeS_L1 fu a1 fu x5 0

def d_laws_toItem (fu : Nat) (a1 : Item) : Option (Item) :=
  some (a1)

def d_laws_toItemS_L1_B (fu : Nat)  (a1 : List Item) (k1 : List Item → Int → Option ((List Item))) (out42 : List Item) (i47 : Int) : Option ((List Item)) :=
  bif (decide (i47 < ((a1.length : Int)))) then obind (ix a1 i47) fun x50 => obind (d_laws_toItem fu x50) fun x52 => obind (ix out42 i47) fun x56 => k1 (setx out42 i47 x52) (w64 (i47 + 1)) else some (out42)
def d_laws_toItemS_L1 (fu : Nat)  (a1 : List Item) : Nat → List Item → Int → Option ((List Item))
  | 0 => fun _ _ => none
  | n + 1 => d_laws_toItemS_L1_B fu a1 (d_laws_toItemS_L1 fu a1 n)
theorem d_laws_toItemS_L1_s (fu : Nat)  (a1 : List Item) (n : Nat) : d_laws_toItemS_L1 fu a1 (n + 1) = d_laws_toItemS_L1_B fu a1 (d_laws_toItemS_L1 fu a1 n) := rfl

def d_laws_toItemS (fu : Nat) (a1 : List Item) : Option ((List Item)) :=
  obind (mk 56 (⟨(0 : Int), (0 : Int), (0 : Int), (0 : Int), (0 : Int), (0 : Int), (0 : Int)⟩ : Item) ((a1.length : Int))) fun x5 => d_laws_toItemS_L1 fu a1 fu x5 0

def d_laws_toRequest (fu : Nat) (a1 : Request) : Option (Request) :=
  obind (d_laws_toPallet fu a1.fPallet) fun x25 => obind (d_laws_toPairS fu a1.fPairs) fun x33 => obind (d_laws_toTypeS fu a1.fTypes) fun x44 => obind (d_laws_toItemS fu a1.fItems) fun x57 => some ((⟨a1.fWay, x25, a1.fClasses, x33, x44, a1.fMaster, x57⟩ : Request))

def d_laws_toIntS_L1_B (fu : Nat)  (a1 : List Int) (k1 : List Int → Int → Option ((List Int))) (out34 : List Int) (i39 : Int) : Option ((List Int)) :=
  bif (decide (i39 < ((a1.length : Int)))) then obind (ix a1 i39) fun x42 => obind (ix out34 i39) fun x44 => k1 (setx out34 i39 x42) (w64 (i39 + 1)) else some (out34)
def d_laws_toIntS_L1 (fu : Nat)  (a1 : List Int) : Nat → List Int → Int → Option ((List Int))
  | 0 => fun _ _ => none
  | n + 1 => d_laws_toIntS_L1_B fu a1 (d_laws_toIntS_L1 fu a1 n)
theorem d_laws_toIntS_L1_s (fu : Nat)  (a1 : List Int) (n : Nat) : d_laws_toIntS_L1 fu a1 (n + 1) = d_laws_toIntS_L1_B fu a1 (d_laws_toIntS_L1 fu a1 n) := rfl

def d_laws_toIntS (fu : Nat) (a1 : List Int) : Option ((List Int)) :=
  obind (mk 8 (0 : Int) ((a1.length : Int))) fun x5 => d_laws_toIntS_L1 fu a1 fu x5 0

def d_laws_toIntSS_L1_B (fu : Nat)  (a1 : List (List Int)) (k1 : List (List Int) → Int → Option ((List (List Int)))) (out92 : List (List Int)) (i97 : Int) : Option ((List (List Int))) :=
  bif (decide (i97 < ((a1.length : Int)))) then obind (ix a1 i97) fun x100 => obind (d_laws_toIntS fu x100) fun x109 => obind (ix out92 i97) fun x118 => k1 (setx out92 i97 x109) (w64 (i97 + 1)) else some (out92)
def d_laws_toIntSS_L1 (fu : Nat)  (a1 : List (List Int)) : Nat → List (List Int) → Int → Option ((List (List Int)))
  | 0 => fun _ _ => none
  | n + 1 => d_laws_toIntSS_L1_B fu a1 (d_laws_toIntSS_L1 fu a1 n)
theorem d_laws_toIntSS_L1_s (fu : Nat)  (a1 : List (List Int)) (n : Nat) : d_laws_toIntSS_L1 fu a1 (n + 1) = d_laws_toIntSS_L1_B fu a1 (d_laws_toIntSS_L1 fu a1 n) := rfl

def d_laws_toIntSS (fu : Nat) (a1 : List (List Int)) : Option ((List (List Int))) :=
  obind (mk 24 ([] : List Int) ((a1.length : Int))) fun x5 => d_laws_toIntSS_L1 fu a1 fu x5 0

def d_spec_l1In (fu : Nat) (x1 : Int) (lo2 : Int) (hi3 : Int) : Option (Bool) :=
  bif (decide (x1 ≥ lo2)) then some (decide (x1 ≤ hi3)) else some (false)

def d_spec_l2Side (fu : Nat) (x1 : Int) : Option (Bool) :=
  obind (d_spec_l1In fu x1 1 2000) fun x2 => some (x2)

def d_spec_PalletOk (fu : Nat) (x1 : Pallet) : Option (Bool) :=
  obind (d_spec_l2Side fu x1.fW) fun x5 => bif x5 then obind (d_spec_l2Side fu x1.fD) fun x10 => bif x10 then obind (d_spec_l2Side fu x1.fH) fun x15 => bif x15 then obind (d_spec_l1In fu x1.fGram 1 100000) fun x20 => some (x20) else some (false) else some (false) else some (false)

def d_spec_l2Id (fu : Nat) (x1 : Int) : Option (Bool) :=
  obind (d_spec_l1In fu x1 0 999) fun x2 => some (x2)

def d_spec_TypeOk (fu : Nat) (x1 : Typ) : Option (Bool) :=
  obind (d_spec_l2Id fu x1.fId) fun x5 => bif x5 then obind (d_spec_l2Side fu x1.fW) fun x10 => bif x10 then obind (d_spec_l2Side fu x1.fH) fun x15 => bif x15 then obind (d_spec_l2Side fu x1.fD) fun x20 => bif x20 then obind (d_spec_l1In fu x1.fTare 0 100000) fun x25 => bif x25 then obind (d_spec_l1In fu x1.fGram 1 100000) fun x30 => bif x30 then obind (d_spec_l1In fu x1.fCost 0 100000) fun x35 => some (x35) else some (false) else some (false) else some (false) else some (false) else some (false) else some (false)

def d_spec_ItemOk (fu : Nat) (x1 : Item) : Option (Bool) :=
  obind (d_spec_l2Id fu x1.fId) fun x5 => bif x5 then obind (d_spec_l2Side fu x1.fW) fun x10 => bif x10 then obind (d_spec_l2Side fu x1.fH) fun x15 => bif x15 then obind (d_spec_l2Side fu x1.fD) fun x20 => bif x20 then obind (d_spec_l1In fu x1.fGram 1 100000) fun x25 => bif x25 then obind (d_spec_l1In fu x1.fClass 0 3) fun x30 => bif x30 then obind (d_spec_l1In fu x1.fCount 1 6) fun x35 => some (x35) else some (false) else some (false) else some (false) else some (false) else some (false) else some (false)

def d_spec_BoundsOk_J1 (fu : Nat) (k4 : Int → Option (Bool)) (i109 : Int)  : Option (Bool) :=
  k4 (w64 (i109 + 1))

def d_spec_BoundsOk_L1_B (fu : Nat)  (r1 : Request) (k7 : Int → Int → Option (Bool)) (units196 : Int) (i197 : Int) : Option (Bool) :=
  bif (decide (i197 < ((r1.fItems.length : Int)))) then obind (ix r1.fItems i197) fun x200 => obind (d_spec_ItemOk fu x200) fun x202 => bif (!x202) then some (false) else obind (ix r1.fItems i197) fun x207 => k7 (w64 (units196 + x200.fCount)) (w64 (i197 + 1)) else some (decide (units196 ≤ 12))
def d_spec_BoundsOk_L1 (fu : Nat)  (r1 : Request) : Nat → Int → Int → Option (Bool)
  | 0 => fun _ _ => none
  | n + 1 => d_spec_BoundsOk_L1_B fu r1 (d_spec_BoundsOk_L1 fu r1 n)
theorem d_spec_BoundsOk_L1_s (fu : Nat)  (r1 : Request) (n : Nat) : d_spec_BoundsOk_L1 fu r1 (n + 1) = d_spec_BoundsOk_L1_B fu r1 (d_spec_BoundsOk_L1 fu r1 n) := rfl

def d_spec_BoundsOk_L2_B (fu : Nat)  (r1 : Request) (k6 : Int → Option (Bool)) (i161 : Int) : Option (Bool) :=
  bif (decide (i161 < ((r1.fTypes.length : Int)))) then obind (ix r1.fTypes i161) fun x164 => obind (d_spec_TypeOk fu x164) fun x166 => bif (!x166) then some (false) else k6 (w64 (i161 + 1)) else d_spec_BoundsOk_L1 fu r1 fu 0 0
def d_spec_BoundsOk_L2 (fu : Nat)  (r1 : Request) : Nat → Int → Option (Bool)
  | 0 => fun _ => none
  | n + 1 => d_spec_BoundsOk_L2_B fu r1 (d_spec_BoundsOk_L2 fu r1 n)
theorem d_spec_BoundsOk_L2_s (fu : Nat)  (r1 : Request) (n : Nat) : d_spec_BoundsOk_L2 fu r1 (n + 1) = d_spec_BoundsOk_L2_B fu r1 (d_spec_BoundsOk_L2 fu r1 n) := rfl

def d_spec_BoundsOk_L3_B (fu : Nat)  (r1 : Request) (k4 : Int → Option (Bool)) (i109 : Int) : Option (Bool) :=
  bif (decide (i109 < ((r1.fPairs.length : Int)))) then obind (ix r1.fPairs i109) fun x127 => obind (d_spec_l1In fu x127.fA 0 3) fun x129 => bif (!x129) then some (false) else obind (ix r1.fPairs i109) fun x134 => obind (d_spec_l1In fu x127.fB 0 3) fun x136 => bif (!x136) then some (false) else d_spec_BoundsOk_J1 fu k4 i109 else d_spec_BoundsOk_L2 fu r1 fu 0
def d_spec_BoundsOk_L3 (fu : Nat)  (r1 : Request) : Nat → Int → Option (Bool)
  | 0 => fun _ => none
  | n + 1 => d_spec_BoundsOk_L3_B fu r1 (d_spec_BoundsOk_L3 fu r1 n)
theorem d_spec_BoundsOk_L3_s (fu : Nat)  (r1 : Request) (n : Nat) : d_spec_BoundsOk_L3 fu r1 (n + 1) = d_spec_BoundsOk_L3_B fu r1 (d_spec_BoundsOk_L3 fu r1 n) := rfl

def d_spec_BoundsOk_J2 (fu : Nat) (r1 : Request)  : Option (Bool) :=
  d_spec_BoundsOk_L3 fu r1 fu 0

def d_spec_BoundsOk (fu : Nat) (r1 : Request) : Option (Bool) :=
  obind (d_spec_l1In fu r1.fWay 0 1) fun x209 => bif (!x209) then some (false) else obind (d_spec_PalletOk fu r1.fPallet) fun x214 => bif (!x214) then some (false) else obind (d_spec_l1In fu r1.fClasses 1 4) fun x219 => bif (!x219) then some (false) else bif (decide (((r1.fPairs.length : Int)) > 16)) then some (false) else obind (d_spec_l1In fu ((r1.fTypes.length : Int)) 1 5) fun x225 => bif (!x225) then some (false) else obind (d_spec_l2Id fu r1.fMaster) fun x230 => bif (!x230) then some (false) else bif (decide (((r1.fItems.length : Int)) > 8)) then some (false) else d_spec_BoundsOk_J2 fu r1

def d_spec_MasterOf_L1_B (fu : Nat)  (r1 : Request) (k1 : Int → Option (Typ × Bool)) (i42 : Int) : Option (Typ × Bool) :=
  bif (decide (i42 < ((r1.fTypes.length : Int)))) then obind (ix r1.fTypes i42) fun x46 => bif (x46.fId == r1.fMaster) then obind (ix r1.fTypes i42) fun x49 => some (x46, true) else k1 (w64 (i42 + 1)) else some ((⟨0, 0, 0, 0, 0, 0, 0⟩ : Typ), false)
def d_spec_MasterOf_L1 (fu : Nat)  (r1 : Request) : Nat → Int → Option (Typ × Bool)
  | 0 => fun _ => none
  | n + 1 => d_spec_MasterOf_L1_B fu r1 (d_spec_MasterOf_L1 fu r1 n)
theorem d_spec_MasterOf_L1_s (fu : Nat)  (r1 : Request) (n : Nat) : d_spec_MasterOf_L1 fu r1 (n + 1) = d_spec_MasterOf_L1_B fu r1 (d_spec_MasterOf_L1 fu r1 n) := rfl

def d_spec_MasterOf (fu : Nat) (r1 : Request) : Option (Typ × Bool) :=
  d_spec_MasterOf_L1 fu r1 fu 0

def d_spec_l5Names_L1_B (fu : Nat) (k3 : Int → Option (Bool)) (r1 : Request) (i77 : Int) (k4 : Int → Option (Bool)) (kv98 : Int) : Option (Bool) :=
  bif (decide (kv98 < i77)) then obind (ix r1.fTypes i77) fun x102 => obind (ix r1.fTypes kv98) fun x104 => bif (x102.fId == x104.fId) then some (false) else k4 (w64 (kv98 + 1)) else k3 (w64 (i77 + 1))
def d_spec_l5Names_L1 (fu : Nat) (k3 : Int → Option (Bool)) (r1 : Request) (i77 : Int) : Nat → Int → Option (Bool)
  | 0 => fun _ => none
  | n + 1 => d_spec_l5Names_L1_B fu k3 r1 i77 (d_spec_l5Names_L1 fu k3 r1 i77 n)
theorem d_spec_l5Names_L1_s (fu : Nat) (k3 : Int → Option (Bool)) (r1 : Request) (i77 : Int) (n : Nat) : d_spec_l5Names_L1 fu k3 r1 i77 (n + 1) = d_spec_l5Names_L1_B fu k3 r1 i77 (d_spec_l5Names_L1 fu k3 r1 i77 n) := rfl

def d_spec_l5Names_L2_B (fu : Nat) (k7 : Int → Option (Bool)) (r1 : Request) (i175 : Int) (k8 : Int → Option (Bool)) (kv200 : Int) : Option (Bool) :=
  bif (decide (kv200 < i175)) then obind (ix r1.fItems i175) fun x204 => obind (ix r1.fItems kv200) fun x206 => bif (x204.fId == x206.fId) then some (false) else k8 (w64 (kv200 + 1)) else k7 (w64 (i175 + 1))
def d_spec_l5Names_L2 (fu : Nat) (k7 : Int → Option (Bool)) (r1 : Request) (i175 : Int) : Nat → Int → Option (Bool)
  | 0 => fun _ => none
  | n + 1 => d_spec_l5Names_L2_B fu k7 r1 i175 (d_spec_l5Names_L2 fu k7 r1 i175 n)
theorem d_spec_l5Names_L2_s (fu : Nat) (k7 : Int → Option (Bool)) (r1 : Request) (i175 : Int) (n : Nat) : d_spec_l5Names_L2 fu k7 r1 i175 (n + 1) = d_spec_l5Names_L2_B fu k7 r1 i175 (d_spec_l5Names_L2 fu k7 r1 i175 n) := rfl

def d_spec_l5Names_J1 (fu : Nat) (k11 : Int → Option (Bool)) (i245 : Int)  : Option (Bool) :=
  k11 (w64 (i245 + 1))

def d_spec_l5Names_L3_B (fu : Nat)  (r1 : Request) (k11 : Int → Option (Bool)) (i245 : Int) : Option (Bool) :=
  bif (decide (i245 < ((r1.fPairs.length : Int)))) then obind (ix r1.fPairs i245) fun x257 => bif (decide (x257.fA ≥ r1.fClasses)) then some (false) else obind (ix r1.fPairs i245) fun x260 => bif (decide (x257.fB ≥ r1.fClasses)) then some (false) else d_spec_l5Names_J1 fu k11 i245 else obind (d_spec_MasterOf fu r1) fun x263 => some (x263.2)
def d_spec_l5Names_L3 (fu : Nat)  (r1 : Request) : Nat → Int → Option (Bool)
  | 0 => fun _ => none
  | n + 1 => d_spec_l5Names_L3_B fu r1 (d_spec_l5Names_L3 fu r1 n)
theorem d_spec_l5Names_L3_s (fu : Nat)  (r1 : Request) (n : Nat) : d_spec_l5Names_L3 fu r1 (n + 1) = d_spec_l5Names_L3_B fu r1 (d_spec_l5Names_L3 fu r1 n) := rfl

def d_spec_l5Names_L4_B (fu : Nat)  (r1 : Request) (k7 : Int → Option (Bool)) (i175 : Int) : Option (Bool) :=
  bif (decide (i175 < ((r1.fItems.length : Int)))) then obind (ix r1.fItems i175) fun x179 => bif (decide (x179.fClass ≥ r1.fClasses)) then some (false) else d_spec_l5Names_L2 fu k7 r1 i175 fu 0 else d_spec_l5Names_L3 fu r1 fu 0
def d_spec_l5Names_L4 (fu : Nat)  (r1 : Request) : Nat → Int → Option (Bool)
  | 0 => fun _ => none
  | n + 1 => d_spec_l5Names_L4_B fu r1 (d_spec_l5Names_L4 fu r1 n)
theorem d_spec_l5Names_L4_s (fu : Nat)  (r1 : Request) (n : Nat) : d_spec_l5Names_L4 fu r1 (n + 1) = d_spec_l5Names_L4_B fu r1 (d_spec_l5Names_L4 fu r1 n) := rfl

def d_spec_l5Names_L5_B (fu : Nat)  (r1 : Request) (k3 : Int → Option (Bool)) (i77 : Int) : Option (Bool) :=
  bif (decide (i77 < ((r1.fTypes.length : Int)))) then d_spec_l5Names_L1 fu k3 r1 i77 fu 0 else d_spec_l5Names_L4 fu r1 fu 0
def d_spec_l5Names_L5 (fu : Nat)  (r1 : Request) : Nat → Int → Option (Bool)
  | 0 => fun _ => none
  | n + 1 => d_spec_l5Names_L5_B fu r1 (d_spec_l5Names_L5 fu r1 n)
theorem d_spec_l5Names_L5_s (fu : Nat)  (r1 : Request) (n : Nat) : d_spec_l5Names_L5 fu r1 (n + 1) = d_spec_l5Names_L5_B fu r1 (d_spec_l5Names_L5 fu r1 n) := rfl

def d_spec_l5Names (fu : Nat) (r1 : Request) : Option (Bool) :=
  d_spec_l5Names_L5 fu r1 fu 0

theorem c_laws_szPairS (fu : Nat) {w0 : World} (a1 : List Pair) (left5 : Int) {v2 : Value} {F3 : List Nat} (hp4 : rd w0 F3 [v2] a1) {r : Int}
    (h : d_laws_szPairS fu a1 left5 = some r) :
    Calls Tryz.prog 63 #[v2, .int .i64 left5] w0 fun e w => e = .returned (.int .i64 r) ∧ Ext [] w0 w := by
 refine enter (vs := [_, _]) func63 rfl ntmps63 rfl fun a k => ?_
 have m := St.start w0
 unfold d_laws_szPairS at h
 refine wr (pN 1 k rfl fun a k => nn (wr (pN 2 k rfl fun a k => sv k rfl (r_len (α := Pair) hp4 k underlying24 rfl rfl) fun a k => pN 2 k rfl fun a k => nn (wp_seq (wr (pN 2 k rfl fun a k => nn (cI h k rfl (fun hb6 h => ?_) fun hb6 h => ?_)))))))
 · refine wr (pN 1 k rfl fun a k => nn (wp_ret (rt_then ?_)))
   refine fS h k m rfl rfl
 refine wp_skip (nm_then ?_)
 refine wr (pN 2 k rfl fun a k => nn (wp_ret (fS h k m rfl rfl)))
theorem c_laws_szTypeS (fu : Nat) {w0 : World} (a1 : List Typ) (left5 : Int) {v2 : Value} {F3 : List Nat} (hp4 : rd w0 F3 [v2] a1) {r : Int}
    (h : d_laws_szTypeS fu a1 left5 = some r) :
    Calls Tryz.prog 64 #[v2, .int .i64 left5] w0 fun e w => e = .returned (.int .i64 r) ∧ Ext [] w0 w := by
 refine enter (vs := [_, _]) func64 rfl ntmps64 rfl fun a k => ?_
 have m := St.start w0
 unfold d_laws_szTypeS at h
 refine wr (pN 1 k rfl fun a k => nn (wr (pN 2 k rfl fun a k => sv k rfl (r_len (α := Typ) hp4 k underlying25 rfl rfl) fun a k => pN 2 k rfl fun a k => nn (wp_seq (wr (pN 2 k rfl fun a k => nn (cI h k rfl (fun hb6 h => ?_) fun hb6 h => ?_)))))))
 · refine wr (pN 1 k rfl fun a k => nn (wp_ret (rt_then ?_)))
   refine fS h k m rfl rfl
 refine wp_skip (nm_then ?_)
 refine wr (pN 2 k rfl fun a k => nn (wp_ret (fS h k m rfl rfl)))
theorem c_laws_szItemS (fu : Nat) {w0 : World} (a1 : List Item) (left5 : Int) {v2 : Value} {F3 : List Nat} (hp4 : rd w0 F3 [v2] a1) {r : Int}
    (h : d_laws_szItemS fu a1 left5 = some r) :
    Calls Tryz.prog 65 #[v2, .int .i64 left5] w0 fun e w => e = .returned (.int .i64 r) ∧ Ext [] w0 w := by
 refine enter (vs := [_, _]) func65 rfl ntmps65 rfl fun a k => ?_
 have m := St.start w0
 unfold d_laws_szItemS at h
 refine wr (pN 1 k rfl fun a k => nn (wr (pN 2 k rfl fun a k => sv k rfl (r_len (α := Item) hp4 k underlying26 rfl rfl) fun a k => pN 2 k rfl fun a k => nn (wp_seq (wr (pN 2 k rfl fun a k => nn (cI h k rfl (fun hb6 h => ?_) fun hb6 h => ?_)))))))
 · refine wr (pN 1 k rfl fun a k => nn (wp_ret (rt_then ?_)))
   refine fS h k m rfl rfl
 refine wp_skip (nm_then ?_)
 refine wr (pN 2 k rfl fun a k => nn (wp_ret (fS h k m rfl rfl)))
theorem c_laws_szRequest (fu : Nat) {w0 : World} (a1 : Request) (left5 : Int) {cs2 : List Value} {F3 : List Nat} (hp4 : rd w0 F3 cs2 a1) {r : Int}
    (h : d_laws_szRequest fu a1 left5 = some r) :
    Calls Tryz.prog 15 #[.agg cs2.toArray, .int .i64 left5] w0 fun e w => e = .returned (.int .i64 r) ∧ Ext [] w0 w := by
 refine enter (vs := [_, _]) func15 rfl ntmps15 rfl fun a k => ?_
 have m := St.start w0
 obtain ⟨v6, F7, v8, F9, v10, F11, rfl, rfl, hf12, hf13, hf14⟩ := hp4
 unfold d_laws_szRequest at h
 refine wr (s_box (cs := [.int .i64 a1.fWay, .int .i64 a1.fPallet.fW, .int .i64 a1.fPallet.fD, .int .i64 a1.fPallet.fH, .int .i64 a1.fPallet.fGram, .int .i64 a1.fClasses, v6, v8, .int .i64 a1.fMaster, v10]) m k rfl rfl rfl rfl rfl rfl fun b15 w17 a k m e hb16 => pN 1 k rfl fun a k => nn (wr (sv k rfl (r_fa fa28_3 k rfl rfl) fun a k => sv k rfl (r_ldb t124 m 0 hb16 6 k rfl rfl rfl rfl rfl) fun a k => pN 1 k rfl fun a k => oE h fun x18 hx19 h => cE k m call63 rfl rfl rfl (c_laws_szPairS fu _ _ (Enc.rd_agr hf12 (m.a00 (Enc.rd_lt hf12))) hx19) fun w21 e a k m => pN 1 k rfl fun a k => nn (wp_seq (wr (pN 2 k rfl fun a k => nn (cI h k rfl (fun hb22 h => ?_) fun hb22 h => ?_)))))))
 · refine wr (pN 1 k rfl fun a k => nn (wp_ret (rt_then ?_)))
   refine fS h k m rfl rfl
 refine wp_skip (nm_then ?_)
 refine wr (sv k rfl (r_fa fa28_4 k rfl rfl) fun a k => sv k rfl (r_ldb t125 m 0 hb16 7 k rfl rfl rfl rfl rfl) fun a k => pN 1 k rfl fun a k => oE h fun x23 hx24 h => cE k m call64 rfl rfl rfl (c_laws_szTypeS fu _ _ (Enc.rd_agr hf13 (m.a00 (Enc.rd_lt hf13))) hx24) fun w26 e a k m => pN 1 k rfl fun a k => nn (wp_seq (wr (pN 2 k rfl fun a k => nn (cI h k rfl (fun hb27 h => ?_) fun hb27 h => ?_)))))
 · refine wr (pN 1 k rfl fun a k => nn (wp_ret (rt_then ?_)))
   refine fS h k m rfl rfl
 refine wp_skip (nm_then ?_)
 refine wr (sv k rfl (r_fa fa28_6 k rfl rfl) fun a k => sv k rfl (r_ldb t126 m 0 hb16 9 k rfl rfl rfl rfl rfl) fun a k => pN 1 k rfl fun a k => oE h fun x28 hx29 h => cE k m call65 rfl rfl rfl (c_laws_szItemS fu _ _ (Enc.rd_agr hf14 (m.a00 (Enc.rd_lt hf14))) hx29) fun w31 e a k m => pN 1 k rfl fun a k => nn (wp_seq (wr (pN 2 k rfl fun a k => nn (cI h k rfl (fun hb32 h => ?_) fun hb32 h => ?_)))))
 · refine wr (pN 1 k rfl fun a k => nn (wp_ret (rt_then ?_)))
   refine fS h k m rfl rfl
 refine wp_skip (nm_then ?_)
 refine wr (pN 2 k rfl fun a k => ?_)
 have k := k.keep [4] rfl
 refine nn (wp_ret (fS h k m rfl rfl))
theorem c_laws_szIntS (fu : Nat) {w0 : World} (a1 : List Int) (left5 : Int) {v2 : Value} {F3 : List Nat} (hp4 : rd w0 F3 [v2] a1) {r : Int}
    (h : d_laws_szIntS fu a1 left5 = some r) :
    Calls Tryz.prog 66 #[v2, .int .i64 left5] w0 fun e w => e = .returned (.int .i64 r) ∧ Ext [] w0 w := by
 refine enter (vs := [_, _]) func66 rfl ntmps66 rfl fun a k => ?_
 have m := St.start w0
 unfold d_laws_szIntS at h
 refine wr (pN 1 k rfl fun a k => nn (wr (pN 2 k rfl fun a k => sv k rfl (r_len (α := Int) hp4 k underlying29 rfl rfl) fun a k => pN 2 k rfl fun a k => nn (wp_seq (wr (pN 2 k rfl fun a k => nn (cI h k rfl (fun hb6 h => ?_) fun hb6 h => ?_)))))))
 · refine wr (pN 1 k rfl fun a k => nn (wp_ret (rt_then ?_)))
   refine fS h k m rfl rfl
 refine wp_skip (nm_then ?_)
 refine wr (pN 2 k rfl fun a k => nn (wp_ret (fS h k m rfl rfl)))
theorem c_laws_szIntSS (fu : Nat) {w0 : World} (a1 : List (List Int)) (left5 : Int) {v2 : Value} {F3 : List Nat} (hp4 : rd w0 F3 [v2] a1) {r : Int}
    (h : d_laws_szIntSS fu a1 left5 = some r) :
    Calls Tryz.prog 33 #[v2, .int .i64 left5] w0 fun e w => e = .returned (.int .i64 r) ∧ Ext [] w0 w := by
 refine enter (vs := [_, _]) func33 rfl ntmps33 rfl fun a k => ?_
 have m := St.start w0
 unfold d_laws_szIntSS at h
 refine wr (pN 1 k rfl fun a k => nn (wr (pN 2 k rfl fun a k => sv k rfl (r_len (α := List Int) hp4 k underlying47 rfl rfl) fun a k => pN 2 k rfl fun a k => nn (wp_seq (wr (pN 2 k rfl fun a k => nn (cI h k rfl (fun hb6 h => ?_) fun hb6 h => ?_)))))))
 · refine wr (pN 1 k rfl fun a k => nn (wp_ret (rt_then ?_)))
   refine fS h k m rfl rfl
 refine wp_skip (nm_then ?_)
 refine wp_seq (wr (pN 1 k rfl fun a k => nn (wp_block (c_loop (fun n a w => ∃ (left42 : Int) (i43 : Int), K 27 [(0, v2), (1, .int .i64 left42), (5, .int .i64 i43)] a ∧ St [] w0 w [] ∧ d_laws_szIntSS_L1 fu a1 n left42 i43 = some r) ?_ ?_ fu _ _ ?_))))
 · rintro a w ⟨_, _, _, _, h⟩
   exact nS h
 · rintro m44 a w41 ⟨left42, i43, k, m, h⟩
   rw [d_laws_szIntSS_L1_s] at h
   unfold d_laws_szIntSS_L1_B at h
   refine wp_seq (wr (pN 2 k rfl fun a k => sv k rfl (r_len (α := List Int) hp4 k underlying47 rfl rfl) fun a k => pN 1 k rfl fun a k => nn (cI h k rfl (fun hb45 h => ?_) fun hb45 h => ?_)))
   · refine wp_skip (nm_then ?_)
     refine wp_seq (wp_block (wr (pN 2 k rfl fun a k => oE h fun x46 hx47 h => sv k rfl (r_ixa hp4 hx47 k ts47 rfl rfl rfl) fun a k => ?_)))
     obtain ⟨G48, cs49, hG50, hr51, hp52, hb53⟩ := rd_get hp4 (ix_some hx47).2.2
     obtain ⟨v54, rfl⟩ : ∃ v, cs49 = [v] := by obtain ⟨_, _, hq, _⟩ := hr51; exact ⟨_, hq⟩
     refine sv k rfl (r_ld1 t129 (hp52.agr (m.a00 (Enc.rd_lt hp4)) hb53) k rfl rfl) fun a k => pN 1 k rfl fun a k => oE h fun x55 hx56 h => cE k m call66 rfl rfl rfl (c_laws_szIntS fu _ _ (Enc.rd_agr hr51 (m.a00 (Enc.rd_lt hr51))) hx56) fun w58 e a k m => pN 1 k rfl fun a k => nn (wr (pN 2 k rfl fun a k => nn (cI h k rfl (fun hb59 h => ?_) fun hb59 h => ?_)))
     · refine wr (pN 1 k rfl fun a k => nn (wp_ret (rt_block (rt_then (rt_then (rt_block (rt_then ?_)))))))
       refine fS h k m rfl rfl
     refine wp_skip (nm_block (nm_then ?_))
     refine wp_region_lit (pN 3 k rfl fun a k => nn ?_)
     exact ⟨x55, w64 (i43 + 1), k.keep [0, 1, 5] rfl, m.sel [] rfl (by decide), h⟩
   refine wp_exit (ex_then (ex_then (ex_same (nm_then ?_))))
   refine wr (pN 2 k rfl fun a k => nn (wp_ret (fS h k m rfl rfl)))
 exact ⟨w64 (left5 - ((a1.length : Int))), 0, k.keep [0, 1, 5] rfl, m.sel [] rfl (by decide), h⟩
theorem c_laws_toPallet (fu : Nat) {w0 : World} (a1 : Pallet)  {r : Pallet}
    (h : d_laws_toPallet fu a1 = some r) :
    Calls Tryz.prog 71 #[.agg (Flat.e (a1)).toArray] w0 fun e w => e = .returned (.agg (Flat.e r).toArray) ∧ Ext [] w0 w := by
 refine enter (vs := [_]) func71 rfl ntmps71 rfl fun a k => ?_
 have m := St.start w0
 unfold d_laws_toPallet at h
 refine wr (s_box (cs := [.int .i64 a1.fW, .int .i64 a1.fD, .int .i64 a1.fH, .int .i64 a1.fGram]) m k rfl rfl rfl rfl rfl rfl fun b2 w4 a k m e hb3 => s_alloc (cs := [.int .i64 0, .int .i64 0, .int .i64 0, .int .i64 0]) m k zeroValue35 rfl rfl rfl rfl rfl fun b5 w7 a k m e hb6 => nn (wr (s_alloc (cs := [.int .i64 0, .int .i64 0, .int .i64 0, .int .i64 0]) m k zeroValue35 rfl rfl rfl rfl rfl fun b8 w10 a k m e hb9 => nn (wr (sv k rfl (r_fa fa23_0 k rfl rfl) fun a k => sv k rfl (r_ldb t13 m 2 hb3 0 k rfl rfl rfl rfl rfl) fun a k => sv k rfl (r_fa fa35_0 k rfl rfl) fun a k => s_stb (cs' := [.int .i64 a1.fW, .int .i64 0, .int .i64 0, .int .i64 0]) sizeOf3 m 0 hb9 0 k rfl rfl rfl rfl rfl rfl rfl rfl rfl rfl rfl fun w11 a k e m hb12 => nn (wr (sv k rfl (r_fa fa23_1 k rfl rfl) fun a k => ?_)))))))
 refine sv k rfl (r_ldb t13 m 2 hb3 1 k rfl rfl rfl rfl rfl) fun a k => sv k rfl (r_fa fa35_1 k rfl rfl) fun a k => s_stb (cs' := [.int .i64 a1.fW, .int .i64 a1.fD, .int .i64 0, .int .i64 0]) sizeOf3 m 0 hb12 1 k rfl rfl rfl rfl rfl rfl rfl rfl rfl rfl rfl fun w13 a k e m hb14 => nn (wr (sv k rfl (r_fa fa23_2 k rfl rfl) fun a k => sv k rfl (r_ldb t13 m 2 hb3 2 k rfl rfl rfl rfl rfl) fun a k => sv k rfl (r_fa fa35_2 k rfl rfl) fun a k => s_stb (cs' := [.int .i64 a1.fW, .int .i64 a1.fD, .int .i64 a1.fH, .int .i64 0]) sizeOf3 m 0 hb14 2 k rfl rfl rfl rfl rfl rfl rfl rfl rfl rfl rfl fun w15 a k e m hb16 => nn (wr (sv k rfl (r_fa fa23_3 k rfl rfl) fun a k => sv k rfl (r_ldb t13 m 2 hb3 3 k rfl rfl rfl rfl rfl) fun a k => sv k rfl (r_fa fa35_3 k rfl rfl) fun a k => ?_))))
 refine s_stb (cs' := [.int .i64 a1.fW, .int .i64 a1.fD, .int .i64 a1.fH, .int .i64 a1.fGram]) sizeOf3 m 0 hb16 3 k rfl rfl rfl rfl rfl rfl rfl rfl rfl rfl rfl fun w17 a k e m hb18 => nn (wr (sv k rfl (r_ldB ta35 m 0 hb18 0 k rfl rfl rfl rfl rfl rfl) fun a k => s_stb (cs' := [.int .i64 a1.fW, .int .i64 a1.fD, .int .i64 a1.fH, .int .i64 a1.fGram]) sizeOf35 m 1 hb6 0 k rfl rfl rfl rfl rfl rfl rfl rfl rfl rfl rfl fun w19 a k e m hb20 => nn (wp_ret ?_)))
 cases h
 exact finR1 k rfl (RV.cA k rfl ta35 (hb20.at (m.a 1 rfl) 0 4 rfl rfl rfl) rfl) ⟨rfl, m.ext⟩
theorem c_laws_toPair (fu : Nat) {w0 : World} (a1 : Pair)  {r : Pair}
    (h : d_laws_toPair fu a1 = some r) :
    Calls Tryz.prog 137 #[.agg (Flat.e (a1)).toArray] w0 fun e w => e = .returned (.agg (Flat.e r).toArray) ∧ Ext [] w0 w := by
 refine enter (vs := [_]) func137 rfl ntmps137 rfl fun a k => ?_
 have m := St.start w0
 unfold d_laws_toPair at h
 refine wr (s_box (cs := [.int .i64 a1.fA, .int .i64 a1.fB]) m k rfl rfl rfl rfl rfl rfl fun b2 w4 a k m e hb3 => s_alloc (cs := [.int .i64 0, .int .i64 0]) m k zeroValue144 rfl rfl rfl rfl rfl fun b5 w7 a k m e hb6 => nn (wr (s_alloc (cs := [.int .i64 0, .int .i64 0]) m k zeroValue144 rfl rfl rfl rfl rfl fun b8 w10 a k m e hb9 => nn (wr (sv k rfl (r_fa fa146_0 k rfl rfl) fun a k => sv k rfl (r_ldb t13 m 2 hb3 0 k rfl rfl rfl rfl rfl) fun a k => sv k rfl (r_fa fa144_0 k rfl rfl) fun a k => s_stb (cs' := [.int .i64 a1.fA, .int .i64 0]) sizeOf3 m 0 hb9 0 k rfl rfl rfl rfl rfl rfl rfl rfl rfl rfl rfl fun w11 a k e m hb12 => nn (wr (sv k rfl (r_fa fa146_1 k rfl rfl) fun a k => sv k rfl (r_ldb t13 m 2 hb3 1 k rfl rfl rfl rfl rfl) fun a k => sv k rfl (r_fa fa144_1 k rfl rfl) fun a k => ?_)))))))
 refine s_stb (cs' := [.int .i64 a1.fA, .int .i64 a1.fB]) sizeOf3 m 0 hb12 1 k rfl rfl rfl rfl rfl rfl rfl rfl rfl rfl rfl fun w13 a k e m hb14 => nn (wr (sv k rfl (r_ldB ta144 m 0 hb14 0 k rfl rfl rfl rfl rfl rfl) fun a k => s_stb (cs' := [.int .i64 a1.fA, .int .i64 a1.fB]) sizeOf144 m 1 hb6 0 k rfl rfl rfl rfl rfl rfl rfl rfl rfl rfl rfl fun w15 a k e m hb16 => nn (wp_ret ?_)))
 cases h
 exact finR1 k rfl (RV.cA k rfl ta144 (hb16.at (m.a 1 rfl) 0 2 rfl rfl rfl) rfl) ⟨rfl, m.ext⟩
theorem c_laws_toPairS (fu : Nat) {w0 : World} (a1 : List Pair) {v2 : Value} {F3 : List Nat} (hp4 : rd w0 F3 [v2] a1) {r : (List Pair)}
    (h : d_laws_toPairS fu a1 = some r) :
    Calls Tryz.prog 72 #[v2] w0 fun e w => ∃ (v0 : Value) (G0 : List Nat), e = .returned (v0) ∧ Ext [] w0 w ∧ ow w G0 [v0] r ∧ (∀ b ∈ G0, w0.heap.size ≤ b) := by
 refine enter (vs := [_]) func72 rfl ntmps72 rfl fun a k => ?_
 have m := St.start w0
 unfold d_laws_toPairS at h
 refine wr (pN 1 k rfl fun a k => nn (wr (pN 1 k rfl fun a k => sv k rfl (r_len (α := Pair) hp4 k underlying24 rfl rfl) fun a k => oE h fun x5 hx6 h => s_mk hx6 te36 rfl rfl m k rfl rfl rfl rfl rfl rfl fun g7 w8 a v10 k m e hf9 => pN 1 k rfl fun a k => nn (wp_seq (wr (pN 1 k rfl fun a k => nn (wp_block (c_loop (fun n a w => ∃ (out42 : List Pair) (v43 : Value) (F44 : List Nat) (u45 : World) (i47 : Int), K 23 [(0, v2), (3, v43), (4, .int .i64 i47)] a ∧ St [] w0 w [(F44, u45)] ∧ ow u45 F44 [v43] out42 ∧ d_laws_toPairS_L1 fu a1 n out42 i47 = some r) ?_ ?_ fu _ _ ?_))))))))
 · rintro a w ⟨_, _, _, _, _, _, _, _, h⟩
   exact nS h
 · rintro m48 a w41 ⟨out42, v43, F44, u45, i47, k, m, hf46, h⟩
   rw [d_laws_toPairS_L1_s] at h
   unfold d_laws_toPairS_L1_B at h
   refine wp_seq (wr (pN 2 k rfl fun a k => sv k rfl (r_len (α := Pair) hp4 k underlying24 rfl rfl) fun a k => pN 1 k rfl fun a k => nn (cI h k rfl (fun hb49 h => ?_) fun hb49 h => ?_)))
   · refine wp_skip (nm_then ?_)
     refine wp_seq (wp_block (wp_region_lit (pN 4 k rfl fun a k => oE h fun x50 hx51 h => sv k rfl (r_ixa hp4 hx51 k ts24 rfl rfl rfl) fun a k => sv k rfl (r_lde hp4 (m.a00 (Enc.rd_lt hp4)) hx51 ta146 k rfl rfl) fun a k => oE h fun x52 hx53 h => cE k m call137 rfl rfl rfl (c_laws_toPair fu (x50 : Pair)  hx53) fun w55 e a k m => oE h fun x56 hx57 h => sv k rfl (r_ixa (Enc.ow_rd hf46) hx57 k ts36 rfl rfl rfl) fun a k => s_ste (α := Pair) (sz := 2) (y := x52) sizeOf144 hx57 m 0 hf46 0 k rfl rfl rfl rfl rfl rfl rfl rfl rfl rfl rfl rfl fun w58 a k e m hf59 => wpList_nil (nm_block (nm_then ?_)))))
     refine wp_region_lit (pN 3 k rfl fun a k => nn ?_)
     exact ⟨setx out42 i47 x52, v43, F44, w58, w64 (i47 + 1), k.keep [0, 3, 4] rfl, m.sel [0] rfl (by decide), hf59, h⟩
   refine wp_exit (ex_then (ex_then (ex_same (nm_then ?_))))
   refine wr (pN 2 k rfl fun a k => nn (wp_ret ?_))
   cases h
   exact finR1 k rfl (RV.tmp k rfl) ⟨_, F44, rfl, m.ext, (Enc.ow_agr hf46 (m.a 0 rfl)), (m.fresh 0 rfl)⟩
 exact ⟨x5, v10, [g7], w8, 0, k.keep [0, 3, 4] rfl, m.sel [0] rfl (by decide), hf9, h⟩
theorem c_laws_toType (fu : Nat) {w0 : World} (a1 : Typ)  {r : Typ}
    (h : d_laws_toType fu a1 = some r) :
    Calls Tryz.prog 138 #[.agg (Flat.e (a1)).toArray] w0 fun e w => e = .returned (.agg (Flat.e r).toArray) ∧ Ext [] w0 w := by
 refine enter (vs := [_]) func138 rfl ntmps138 rfl fun a k => ?_
 have m := St.start w0
 unfold d_laws_toType at h
 refine wr (s_box (cs := [.int .i64 a1.fId, .int .i64 a1.fW, .int .i64 a1.fH, .int .i64 a1.fD, .int .i64 a1.fTare, .int .i64 a1.fGram, .int .i64 a1.fCost]) m k rfl rfl rfl rfl rfl rfl fun b2 w4 a k m e hb3 => s_alloc (cs := [.int .i64 0, .int .i64 0, .int .i64 0, .int .i64 0, .int .i64 0, .int .i64 0, .int .i64 0]) m k zeroValue92 rfl rfl rfl rfl rfl fun b5 w7 a k m e hb6 => nn (wr (s_alloc (cs := [.int .i64 0, .int .i64 0, .int .i64 0, .int .i64 0, .int .i64 0, .int .i64 0, .int .i64 0]) m k zeroValue92 rfl rfl rfl rfl rfl fun b8 w10 a k m e hb9 => nn (wr (sv k rfl (r_fa fa148_0 k rfl rfl) fun a k => sv k rfl (r_ldb t13 m 2 hb3 0 k rfl rfl rfl rfl rfl) fun a k => sv k rfl (r_fa fa92_0 k rfl rfl) fun a k => ?_)))))
 refine s_stb (cs' := [.int .i64 a1.fId, .int .i64 0, .int .i64 0, .int .i64 0, .int .i64 0, .int .i64 0, .int .i64 0]) sizeOf3 m 0 hb9 0 k rfl rfl rfl rfl rfl rfl rfl rfl rfl rfl rfl fun w11 a k e m hb12 => nn (wr (sv k rfl (r_fa fa148_1 k rfl rfl) fun a k => sv k rfl (r_ldb t13 m 2 hb3 1 k rfl rfl rfl rfl rfl) fun a k => sv k rfl (r_fa fa92_1 k rfl rfl) fun a k => s_stb (cs' := [.int .i64 a1.fId, .int .i64 a1.fW, .int .i64 0, .int .i64 0, .int .i64 0, .int .i64 0, .int .i64 0]) sizeOf3 m 0 hb12 1 k rfl rfl rfl rfl rfl rfl rfl rfl rfl rfl rfl fun w13 a k e m hb14 => nn (wr (sv k rfl (r_fa fa148_2 k rfl rfl) fun a k => sv k rfl (r_ldb t13 m 2 hb3 2 k rfl rfl rfl rfl rfl) fun a k => sv k rfl (r_fa fa92_2 k rfl rfl) fun a k => ?_))))
 refine s_stb (cs' := [.int .i64 a1.fId, .int .i64 a1.fW, .int .i64 a1.fH, .int .i64 0, .int .i64 0, .int .i64 0, .int .i64 0]) sizeOf3 m 0 hb14 2 k rfl rfl rfl rfl rfl rfl rfl rfl rfl rfl rfl fun w15 a k e m hb16 => nn (wr (sv k rfl (r_fa fa148_3 k rfl rfl) fun a k => sv k rfl (r_ldb t13 m 2 hb3 3 k rfl rfl rfl rfl rfl) fun a k => sv k rfl (r_fa fa92_3 k rfl rfl) fun a k => s_stb (cs' := [.int .i64 a1.fId, .int .i64 a1.fW, .int .i64 a1.fH, .int .i64 a1.fD, .int .i64 0, .int .i64 0, .int .i64 0]) sizeOf3 m 0 hb16 3 k rfl rfl rfl rfl rfl rfl rfl rfl rfl rfl rfl fun w17 a k e m hb18 => nn (wr (sv k rfl (r_fa fa148_4 k rfl rfl) fun a k => sv k rfl (r_ldb t13 m 2 hb3 4 k rfl rfl rfl rfl rfl) fun a k => sv k rfl (r_fa fa92_4 k rfl rfl) fun a k => ?_))))
 refine s_stb (cs' := [.int .i64 a1.fId, .int .i64 a1.fW, .int .i64 a1.fH, .int .i64 a1.fD, .int .i64 a1.fTare, .int .i64 0, .int .i64 0]) sizeOf3 m 0 hb18 4 k rfl rfl rfl rfl rfl rfl rfl rfl rfl rfl rfl fun w19 a k e m hb20 => nn (wr (sv k rfl (r_fa fa148_5 k rfl rfl) fun a k => sv k rfl (r_ldb t13 m 2 hb3 5 k rfl rfl rfl rfl rfl) fun a k => sv k rfl (r_fa fa92_5 k rfl rfl) fun a k => s_stb (cs' := [.int .i64 a1.fId, .int .i64 a1.fW, .int .i64 a1.fH, .int .i64 a1.fD, .int .i64 a1.fTare, .int .i64 a1.fGram, .int .i64 0]) sizeOf3 m 0 hb20 5 k rfl rfl rfl rfl rfl rfl rfl rfl rfl rfl rfl fun w21 a k e m hb22 => ?_))
 have k := k.keep [1, 2, 3] rfl
 refine nn (wr (sv k rfl (r_fa fa148_6 k rfl rfl) fun a k => sv k rfl (r_ldb t13 m 2 hb3 6 k rfl rfl rfl rfl rfl) fun a k => sv k rfl (r_fa fa92_6 k rfl rfl) fun a k => s_stb (cs' := [.int .i64 a1.fId, .int .i64 a1.fW, .int .i64 a1.fH, .int .i64 a1.fD, .int .i64 a1.fTare, .int .i64 a1.fGram, .int .i64 a1.fCost]) sizeOf3 m 0 hb22 6 k rfl rfl rfl rfl rfl rfl rfl rfl rfl rfl rfl fun w23 a k e m hb24 => nn (wr (sv k rfl (r_ldB ta92 m 0 hb24 0 k rfl rfl rfl rfl rfl rfl) fun a k => s_stb (cs' := [.int .i64 a1.fId, .int .i64 a1.fW, .int .i64 a1.fH, .int .i64 a1.fD, .int .i64 a1.fTare, .int .i64 a1.fGram, .int .i64 a1.fCost]) sizeOf92 m 1 hb6 0 k rfl rfl rfl rfl rfl rfl rfl rfl rfl rfl rfl fun w25 a k e m hb26 => nn (wp_ret ?_)))))
 cases h
 exact finR1 k rfl (RV.cA k rfl ta92 (hb26.at (m.a 1 rfl) 0 7 rfl rfl rfl) rfl) ⟨rfl, m.ext⟩
theorem c_laws_toTypeS (fu : Nat) {w0 : World} (a1 : List Typ) {v2 : Value} {F3 : List Nat} (hp4 : rd w0 F3 [v2] a1) {r : (List Typ)}
    (h : d_laws_toTypeS fu a1 = some r) :
    Calls Tryz.prog 73 #[v2] w0 fun e w => ∃ (v0 : Value) (G0 : List Nat), e = .returned (v0) ∧ Ext [] w0 w ∧ ow w G0 [v0] r ∧ (∀ b ∈ G0, w0.heap.size ≤ b) := by
 refine enter (vs := [_]) func73 rfl ntmps73 rfl fun a k => ?_
 have m := St.start w0
 unfold d_laws_toTypeS at h
 refine wr (pN 1 k rfl fun a k => nn (wr (pN 1 k rfl fun a k => sv k rfl (r_len (α := Typ) hp4 k underlying25 rfl rfl) fun a k => oE h fun x5 hx6 h => s_mk hx6 te37 rfl rfl m k rfl rfl rfl rfl rfl rfl fun g7 w8 a v10 k m e hf9 => pN 1 k rfl fun a k => nn (wp_seq (wr (pN 1 k rfl fun a k => nn (wp_block (c_loop (fun n a w => ∃ (out42 : List Typ) (v43 : Value) (F44 : List Nat) (u45 : World) (i47 : Int), K 23 [(0, v2), (3, v43), (4, .int .i64 i47)] a ∧ St [] w0 w [(F44, u45)] ∧ ow u45 F44 [v43] out42 ∧ d_laws_toTypeS_L1 fu a1 n out42 i47 = some r) ?_ ?_ fu _ _ ?_))))))))
 · rintro a w ⟨_, _, _, _, _, _, _, _, h⟩
   exact nS h
 · rintro m48 a w41 ⟨out42, v43, F44, u45, i47, k, m, hf46, h⟩
   rw [d_laws_toTypeS_L1_s] at h
   unfold d_laws_toTypeS_L1_B at h
   refine wp_seq (wr (pN 2 k rfl fun a k => sv k rfl (r_len (α := Typ) hp4 k underlying25 rfl rfl) fun a k => pN 1 k rfl fun a k => nn (cI h k rfl (fun hb49 h => ?_) fun hb49 h => ?_)))
   · refine wp_skip (nm_then ?_)
     refine wp_seq (wp_block (wp_region_lit (pN 4 k rfl fun a k => oE h fun x50 hx51 h => sv k rfl (r_ixa hp4 hx51 k ts25 rfl rfl rfl) fun a k => sv k rfl (r_lde hp4 (m.a00 (Enc.rd_lt hp4)) hx51 ta148 k rfl rfl) fun a k => oE h fun x52 hx53 h => cE k m call138 rfl rfl rfl (c_laws_toType fu (x50 : Typ)  hx53) fun w55 e a k m => oE h fun x56 hx57 h => sv k rfl (r_ixa (Enc.ow_rd hf46) hx57 k ts37 rfl rfl rfl) fun a k => s_ste (α := Typ) (sz := 7) (y := x52) sizeOf92 hx57 m 0 hf46 0 k rfl rfl rfl rfl rfl rfl rfl rfl rfl rfl rfl rfl fun w58 a k e m hf59 => wpList_nil (nm_block (nm_then ?_)))))
     refine wp_region_lit (pN 3 k rfl fun a k => nn ?_)
     exact ⟨setx out42 i47 x52, v43, F44, w58, w64 (i47 + 1), k.keep [0, 3, 4] rfl, m.sel [0] rfl (by decide), hf59, h⟩
   refine wp_exit (ex_then (ex_then (ex_same (nm_then ?_))))
   refine wr (pN 2 k rfl fun a k => nn (wp_ret ?_))
   cases h
   exact finR1 k rfl (RV.tmp k rfl) ⟨_, F44, rfl, m.ext, (Enc.ow_agr hf46 (m.a 0 rfl)), (m.fresh 0 rfl)⟩
 exact ⟨x5, v10, [g7], w8, 0, k.keep [0, 3, 4] rfl, m.sel [0] rfl (by decide), hf9, h⟩
theorem c_laws_toItem (fu : Nat) {w0 : World} (a1 : Item)  {r : Item}
    (h : d_laws_toItem fu a1 = some r) :
    Calls Tryz.prog 139 #[.agg (Flat.e (a1)).toArray] w0 fun e w => e = .returned (.agg (Flat.e r).toArray) ∧ Ext [] w0 w := by
 refine enter (vs := [_]) func139 rfl ntmps139 rfl fun a k => ?_
 have m := St.start w0
 unfold d_laws_toItem at h
 refine wr (s_box (cs := [.int .i64 a1.fId, .int .i64 a1.fW, .int .i64 a1.fH, .int .i64 a1.fD, .int .i64 a1.fGram, .int .i64 a1.fClass, .int .i64 a1.fCount]) m k rfl rfl rfl rfl rfl rfl fun b2 w4 a k m e hb3 => s_alloc (cs := [.int .i64 0, .int .i64 0, .int .i64 0, .int .i64 0, .int .i64 0, .int .i64 0, .int .i64 0]) m k zeroValue120 rfl rfl rfl rfl rfl fun b5 w7 a k m e hb6 => nn (wr (s_alloc (cs := [.int .i64 0, .int .i64 0, .int .i64 0, .int .i64 0, .int .i64 0, .int .i64 0, .int .i64 0]) m k zeroValue120 rfl rfl rfl rfl rfl fun b8 w10 a k m e hb9 => nn (wr (sv k rfl (r_fa fa150_0 k rfl rfl) fun a k => sv k rfl (r_ldb t13 m 2 hb3 0 k rfl rfl rfl rfl rfl) fun a k => sv k rfl (r_fa fa120_0 k rfl rfl) fun a k => ?_)))))
 refine s_stb (cs' := [.int .i64 a1.fId, .int .i64 0, .int .i64 0, .int .i64 0, .int .i64 0, .int .i64 0, .int .i64 0]) sizeOf3 m 0 hb9 0 k rfl rfl rfl rfl rfl rfl rfl rfl rfl rfl rfl fun w11 a k e m hb12 => nn (wr (sv k rfl (r_fa fa150_1 k rfl rfl) fun a k => sv k rfl (r_ldb t13 m 2 hb3 1 k rfl rfl rfl rfl rfl) fun a k => sv k rfl (r_fa fa120_1 k rfl rfl) fun a k => s_stb (cs' := [.int .i64 a1.fId, .int .i64 a1.fW, .int .i64 0, .int .i64 0, .int .i64 0, .int .i64 0, .int .i64 0]) sizeOf3 m 0 hb12 1 k rfl rfl rfl rfl rfl rfl rfl rfl rfl rfl rfl fun w13 a k e m hb14 => nn (wr (sv k rfl (r_fa fa150_2 k rfl rfl) fun a k => sv k rfl (r_ldb t13 m 2 hb3 2 k rfl rfl rfl rfl rfl) fun a k => sv k rfl (r_fa fa120_2 k rfl rfl) fun a k => ?_))))
 refine s_stb (cs' := [.int .i64 a1.fId, .int .i64 a1.fW, .int .i64 a1.fH, .int .i64 0, .int .i64 0, .int .i64 0, .int .i64 0]) sizeOf3 m 0 hb14 2 k rfl rfl rfl rfl rfl rfl rfl rfl rfl rfl rfl fun w15 a k e m hb16 => nn (wr (sv k rfl (r_fa fa150_3 k rfl rfl) fun a k => sv k rfl (r_ldb t13 m 2 hb3 3 k rfl rfl rfl rfl rfl) fun a k => sv k rfl (r_fa fa120_3 k rfl rfl) fun a k => s_stb (cs' := [.int .i64 a1.fId, .int .i64 a1.fW, .int .i64 a1.fH, .int .i64 a1.fD, .int .i64 0, .int .i64 0, .int .i64 0]) sizeOf3 m 0 hb16 3 k rfl rfl rfl rfl rfl rfl rfl rfl rfl rfl rfl fun w17 a k e m hb18 => nn (wr (sv k rfl (r_fa fa150_4 k rfl rfl) fun a k => sv k rfl (r_ldb t13 m 2 hb3 4 k rfl rfl rfl rfl rfl) fun a k => sv k rfl (r_fa fa120_4 k rfl rfl) fun a k => ?_))))
 refine s_stb (cs' := [.int .i64 a1.fId, .int .i64 a1.fW, .int .i64 a1.fH, .int .i64 a1.fD, .int .i64 a1.fGram, .int .i64 0, .int .i64 0]) sizeOf3 m 0 hb18 4 k rfl rfl rfl rfl rfl rfl rfl rfl rfl rfl rfl fun w19 a k e m hb20 => nn (wr (sv k rfl (r_fa fa150_5 k rfl rfl) fun a k => sv k rfl (r_ldb t13 m 2 hb3 5 k rfl rfl rfl rfl rfl) fun a k => sv k rfl (r_fa fa120_5 k rfl rfl) fun a k => s_stb (cs' := [.int .i64 a1.fId, .int .i64 a1.fW, .int .i64 a1.fH, .int .i64 a1.fD, .int .i64 a1.fGram, .int .i64 a1.fClass, .int .i64 0]) sizeOf3 m 0 hb20 5 k rfl rfl rfl rfl rfl rfl rfl rfl rfl rfl rfl fun w21 a k e m hb22 => ?_))
 have k := k.keep [1, 2, 3] rfl
 refine nn (wr (sv k rfl (r_fa fa150_6 k rfl rfl) fun a k => sv k rfl (r_ldb t13 m 2 hb3 6 k rfl rfl rfl rfl rfl) fun a k => sv k rfl (r_fa fa120_6 k rfl rfl) fun a k => s_stb (cs' := [.int .i64 a1.fId, .int .i64 a1.fW, .int .i64 a1.fH, .int .i64 a1.fD, .int .i64 a1.fGram, .int .i64 a1.fClass, .int .i64 a1.fCount]) sizeOf3 m 0 hb22 6 k rfl rfl rfl rfl rfl rfl rfl rfl rfl rfl rfl fun w23 a k e m hb24 => nn (wr (sv k rfl (r_ldB ta120 m 0 hb24 0 k rfl rfl rfl rfl rfl rfl) fun a k => s_stb (cs' := [.int .i64 a1.fId, .int .i64 a1.fW, .int .i64 a1.fH, .int .i64 a1.fD, .int .i64 a1.fGram, .int .i64 a1.fClass, .int .i64 a1.fCount]) sizeOf120 m 1 hb6 0 k rfl rfl rfl rfl rfl rfl rfl rfl rfl rfl rfl fun w25 a k e m hb26 => nn (wp_ret ?_)))))
 cases h
 exact finR1 k rfl (RV.cA k rfl ta120 (hb26.at (m.a 1 rfl) 0 7 rfl rfl rfl) rfl) ⟨rfl, m.ext⟩
theorem c_laws_toItemS (fu : Nat) {w0 : World} (a1 : List Item) {v2 : Value} {F3 : List Nat} (hp4 : rd w0 F3 [v2] a1) {r : (List Item)}
    (h : d_laws_toItemS fu a1 = some r) :
    Calls Tryz.prog 74 #[v2] w0 fun e w => ∃ (v0 : Value) (G0 : List Nat), e = .returned (v0) ∧ Ext [] w0 w ∧ ow w G0 [v0] r ∧ (∀ b ∈ G0, w0.heap.size ≤ b) := by
 refine enter (vs := [_]) func74 rfl ntmps74 rfl fun a k => ?_
 have m := St.start w0
 unfold d_laws_toItemS at h
 refine wr (pN 1 k rfl fun a k => nn (wr (pN 1 k rfl fun a k => sv k rfl (r_len (α := Item) hp4 k underlying26 rfl rfl) fun a k => oE h fun x5 hx6 h => s_mk hx6 te38 rfl rfl m k rfl rfl rfl rfl rfl rfl fun g7 w8 a v10 k m e hf9 => pN 1 k rfl fun a k => nn (wp_seq (wr (pN 1 k rfl fun a k => nn (wp_block (c_loop (fun n a w => ∃ (out42 : List Item) (v43 : Value) (F44 : List Nat) (u45 : World) (i47 : Int), K 23 [(0, v2), (3, v43), (4, .int .i64 i47)] a ∧ St [] w0 w [(F44, u45)] ∧ ow u45 F44 [v43] out42 ∧ d_laws_toItemS_L1 fu a1 n out42 i47 = some r) ?_ ?_ fu _ _ ?_))))))))
 · rintro a w ⟨_, _, _, _, _, _, _, _, h⟩
   exact nS h
 · rintro m48 a w41 ⟨out42, v43, F44, u45, i47, k, m, hf46, h⟩
   rw [d_laws_toItemS_L1_s] at h
   unfold d_laws_toItemS_L1_B at h
   refine wp_seq (wr (pN 2 k rfl fun a k => sv k rfl (r_len (α := Item) hp4 k underlying26 rfl rfl) fun a k => pN 1 k rfl fun a k => nn (cI h k rfl (fun hb49 h => ?_) fun hb49 h => ?_)))
   · refine wp_skip (nm_then ?_)
     refine wp_seq (wp_block (wp_region_lit (pN 4 k rfl fun a k => oE h fun x50 hx51 h => sv k rfl (r_ixa hp4 hx51 k ts26 rfl rfl rfl) fun a k => sv k rfl (r_lde hp4 (m.a00 (Enc.rd_lt hp4)) hx51 ta150 k rfl rfl) fun a k => oE h fun x52 hx53 h => cE k m call139 rfl rfl rfl (c_laws_toItem fu (x50 : Item)  hx53) fun w55 e a k m => oE h fun x56 hx57 h => sv k rfl (r_ixa (Enc.ow_rd hf46) hx57 k ts38 rfl rfl rfl) fun a k => s_ste (α := Item) (sz := 7) (y := x52) sizeOf120 hx57 m 0 hf46 0 k rfl rfl rfl rfl rfl rfl rfl rfl rfl rfl rfl rfl fun w58 a k e m hf59 => wpList_nil (nm_block (nm_then ?_)))))
     refine wp_region_lit (pN 3 k rfl fun a k => nn ?_)
     exact ⟨setx out42 i47 x52, v43, F44, w58, w64 (i47 + 1), k.keep [0, 3, 4] rfl, m.sel [0] rfl (by decide), hf59, h⟩
   refine wp_exit (ex_then (ex_then (ex_same (nm_then ?_))))
   refine wr (pN 2 k rfl fun a k => nn (wp_ret ?_))
   cases h
   exact finR1 k rfl (RV.tmp k rfl) ⟨_, F44, rfl, m.ext, (Enc.ow_agr hf46 (m.a 0 rfl)), (m.fresh 0 rfl)⟩
 exact ⟨x5, v10, [g7], w8, 0, k.keep [0, 3, 4] rfl, m.sel [0] rfl (by decide), hf9, h⟩
theorem c_laws_toRequest (fu : Nat) {w0 : World} (a1 : Request) {cs2 : List Value} {F3 : List Nat} (hp4 : rd w0 F3 cs2 a1) {r : Request}
    (h : d_laws_toRequest fu a1 = some r) :
    Calls Tryz.prog 18 #[.agg cs2.toArray] w0 fun e w => ∃ (cs0 : List Value) (G0 : List Nat), e = .returned (.agg cs0.toArray) ∧ Ext [] w0 w ∧ ow w G0 cs0 r ∧ (∀ b ∈ G0, w0.heap.size ≤ b) := by
 refine enter (vs := [_]) func18 rfl ntmps18 rfl fun a k => ?_
 have m := St.start w0
 obtain ⟨v5, F6, v7, F8, v9, F10, rfl, rfl, hf11, hf12, hf13⟩ := hp4
 unfold d_laws_toRequest at h
 refine wr (s_box (cs := [.int .i64 a1.fWay, .int .i64 a1.fPallet.fW, .int .i64 a1.fPallet.fD, .int .i64 a1.fPallet.fH, .int .i64 a1.fPallet.fGram, .int .i64 a1.fClasses, v5, v7, .int .i64 a1.fMaster, v9]) m k rfl rfl rfl rfl rfl rfl fun b14 w16 a k m e hb15 => s_alloc (cs := [.int .i64 0, .int .i64 0, .int .i64 0, .int .i64 0, .int .i64 0, .int .i64 0, .slice none 0 0, .slice none 0 0, .int .i64 0, .slice none 0 0]) m k zeroValue40 rfl rfl rfl rfl rfl fun b17 w19 a k m e hb18 => nn (wr (s_alloc (cs := [.int .i64 0, .int .i64 0, .int .i64 0, .int .i64 0, .int .i64 0, .int .i64 0, .slice none 0 0, .slice none 0 0, .int .i64 0, .slice none 0 0]) m k zeroValue40 rfl rfl rfl rfl rfl fun b20 w22 a k m e hb21 => nn (wr (sv k rfl (r_fa fa28_0 k rfl rfl) fun a k => ?_)))))
 refine sv k rfl (r_ldb t13 m 2 hb15 0 k rfl rfl rfl rfl rfl) fun a k => sv k rfl (r_fa fa40_0 k rfl rfl) fun a k => s_stb (cs' := [.int .i64 a1.fWay, .int .i64 0, .int .i64 0, .int .i64 0, .int .i64 0, .int .i64 0, .slice none 0 0, .slice none 0 0, .int .i64 0, .slice none 0 0]) sizeOf3 m 0 hb21 0 k rfl rfl rfl rfl rfl rfl rfl rfl rfl rfl rfl fun w23 a k e m hb24 => nn (wr (sv k rfl (r_fa fa28_1 k rfl rfl) fun a k => sv k rfl (r_ldB ta23 m 2 hb15 1 k rfl rfl rfl rfl rfl rfl) fun a k => oE h fun x25 hx26 h => cE k m call71 rfl rfl rfl (c_laws_toPallet fu (a1.fPallet : Pallet)  hx26) fun w28 e a k m => sv k rfl (r_fa fa40_1 k rfl rfl) fun a k => ?_))
 refine s_stb (cs' := [.int .i64 a1.fWay, .int .i64 x25.fW, .int .i64 x25.fD, .int .i64 x25.fH, .int .i64 x25.fGram, .int .i64 0, .slice none 0 0, .slice none 0 0, .int .i64 0, .slice none 0 0]) sizeOf35 m 0 hb24 1 k rfl rfl rfl rfl rfl rfl rfl rfl rfl rfl rfl fun w29 a k e m hb30 => nn (wr (sv k rfl (r_fa fa28_2 k rfl rfl) fun a k => sv k rfl (r_ldb t13 m 2 hb15 5 k rfl rfl rfl rfl rfl) fun a k => sv k rfl (r_fa fa40_2 k rfl rfl) fun a k => s_stb (cs' := [.int .i64 a1.fWay, .int .i64 x25.fW, .int .i64 x25.fD, .int .i64 x25.fH, .int .i64 x25.fGram, .int .i64 a1.fClasses, .slice none 0 0, .slice none 0 0, .int .i64 0, .slice none 0 0]) sizeOf3 m 0 hb30 5 k rfl rfl rfl rfl rfl rfl rfl rfl rfl rfl rfl fun w31 a k e m hb32 => nn (wr (sv k rfl (r_fa fa28_3 k rfl rfl) fun a k => ?_))))
 refine sv k rfl (r_ldb t124 m 2 hb15 6 k rfl rfl rfl rfl rfl) fun a k => oE h fun x33 hx34 h => s_call k call72 rfl rfl rfl rfl rfl (c_laws_toPairS fu _ (Enc.rd_agr hf11 (m.a00 (Enc.rd_lt hf11))) hx34) fun e35 w36 hR => ?_
 obtain ⟨v41, F37, rfl, e, hf38, hfr39⟩ := hR
 refine ⟨_, rfl, fun a k => ?_⟩
 have m := m.new e F37 (fun b hb => ⟨hfr39 b hb, Enc.rd_lt (Enc.ow_rd hf38) b hb⟩) (Enc.ow_nd hf38)
 refine sv k rfl (r_fa fa40_3 k rfl rfl) fun a k => s_stb1 (cs' := [.int .i64 a1.fWay, .int .i64 x25.fW, .int .i64 x25.fD, .int .i64 x25.fH, .int .i64 x25.fGram, .int .i64 a1.fClasses, v41, .slice none 0 0, .int .i64 0, .slice none 0 0]) sizeOf36 m 1 hb32 6 k (rd_c (Enc.ow_rd hf38)) (rd_o (Enc.ow_rd hf38)) rfl rfl rfl rfl rfl rfl rfl rfl rfl fun w42 a k e m hb43 => nn (wr (sv k rfl (r_fa fa28_4 k rfl rfl) fun a k => sv k rfl (r_ldb t125 m 3 hb15 7 k rfl rfl rfl rfl rfl) fun a k => oE h fun x44 hx45 h => s_call k call73 rfl rfl rfl rfl rfl (c_laws_toTypeS fu _ (Enc.rd_agr hf12 (m.a00 (Enc.rd_lt hf12))) hx45) fun e46 w47 hR => ?_))
 obtain ⟨v52, F48, rfl, e, hf49, hfr50⟩ := hR
 refine ⟨_, rfl, fun a k => ?_⟩
 have m := m.new e F48 (fun b hb => ⟨hfr50 b hb, Enc.rd_lt (Enc.ow_rd hf49) b hb⟩) (Enc.ow_nd hf49)
 refine sv k rfl (r_fa fa40_4 k rfl rfl) fun a k => s_stb1 (cs' := [.int .i64 a1.fWay, .int .i64 x25.fW, .int .i64 x25.fD, .int .i64 x25.fH, .int .i64 x25.fGram, .int .i64 a1.fClasses, v41, v52, .int .i64 0, .slice none 0 0]) sizeOf37 m 2 hb43 7 k (rd_c (Enc.ow_rd hf49)) (rd_o (Enc.ow_rd hf49)) rfl rfl rfl rfl rfl rfl rfl rfl rfl fun w53 a k e m hb54 => nn (wr (sv k rfl (r_fa fa28_5 k rfl rfl) fun a k => sv k rfl (r_ldb t13 m 4 hb15 8 k rfl rfl rfl rfl rfl) fun a k => sv k rfl (r_fa fa40_5 k rfl rfl) fun a k => s_stb (cs' := [.int .i64 a1.fWay, .int .i64 x25.fW, .int .i64 x25.fD, .int .i64 x25.fH, .int .i64 x25.fGram, .int .i64 a1.fClasses, v41, v52, .int .i64 a1.fMaster, .slice none 0 0]) sizeOf3 m 2 hb54 8 k rfl rfl rfl rfl rfl rfl rfl rfl rfl rfl rfl fun w55 a k e m hb56 => ?_))
 have k := k.keep [1, 2, 3] rfl
 refine nn (wr (sv k rfl (r_fa fa28_6 k rfl rfl) fun a k => sv k rfl (r_ldb t126 m 4 hb15 9 k rfl rfl rfl rfl rfl) fun a k => oE h fun x57 hx58 h => s_call k call74 rfl rfl rfl rfl rfl (c_laws_toItemS fu _ (Enc.rd_agr hf13 (m.a00 (Enc.rd_lt hf13))) hx58) fun e59 w60 hR => ?_))
 obtain ⟨v65, F61, rfl, e, hf62, hfr63⟩ := hR
 refine ⟨_, rfl, fun a k => ?_⟩
 have m := m.new e F61 (fun b hb => ⟨hfr63 b hb, Enc.rd_lt (Enc.ow_rd hf62) b hb⟩) (Enc.ow_nd hf62)
 refine sv k rfl (r_fa fa40_6 k rfl rfl) fun a k => s_stb1 (cs' := [.int .i64 a1.fWay, .int .i64 x25.fW, .int .i64 x25.fD, .int .i64 x25.fH, .int .i64 x25.fGram, .int .i64 a1.fClasses, v41, v52, .int .i64 a1.fMaster, v65]) sizeOf38 m 3 hb56 9 k (rd_c (Enc.ow_rd hf62)) (rd_o (Enc.ow_rd hf62)) rfl rfl rfl rfl rfl rfl rfl rfl rfl fun w66 a k e m hb67 => nn (wr (sv k rfl (r_ldB ta40 m 3 hb67 0 k rfl rfl rfl rfl rfl rfl) fun a k => ?_))
 refine s_stb (cs' := [.int .i64 a1.fWay, .int .i64 x25.fW, .int .i64 x25.fD, .int .i64 x25.fH, .int .i64 x25.fGram, .int .i64 a1.fClasses, v41, v52, .int .i64 a1.fMaster, v65]) sizeOf40 m 4 hb18 0 k rfl rfl rfl rfl rfl rfl rfl rfl rfl rfl (allc rfl (allc rfl (allc rfl (allc rfl (allc rfl (allc rfl (allc (rd_o (Enc.ow_rd hf38)) (allc (rd_o (Enc.ow_rd hf49)) (allc rfl (allc (rd_o (Enc.ow_rd hf62)) alln)))))))))) fun w68 a k e m hb69 => nn (wp_ret ?_)
 cases h
 exact finR1 k rfl (RV.cA k rfl ta40 (hb69.at (m.a 4 rfl) 0 10 rfl rfl rfl) rfl) ⟨_, _, rfl, m.ext, ⟨_, F37, _, F48, _, F61, rfl, rfl, (Enc.ow_agr hf38 (m.a 2 rfl)), (Enc.ow_agr hf49 (m.a 1 rfl)), (Enc.ow_agr hf62 (m.a 0 rfl)), by simpa [fps] using (m.sel [2, 1, 0] rfl (by decide)).nd⟩, (app_fresh (m.fresh 2 rfl) (app_fresh (m.fresh 1 rfl) (m.fresh 0 rfl)))⟩
theorem c_laws_toIntS (fu : Nat) {w0 : World} (a1 : List Int) {v2 : Value} {F3 : List Nat} (hp4 : rd w0 F3 [v2] a1) {r : (List Int)}
    (h : d_laws_toIntS fu a1 = some r) :
    Calls Tryz.prog 49 #[v2] w0 fun e w => ∃ (v0 : Value) (G0 : List Nat), e = .returned (v0) ∧ Ext [] w0 w ∧ ow w G0 [v0] r ∧ (∀ b ∈ G0, w0.heap.size ≤ b) := by
 refine enter (vs := [_]) func49 rfl ntmps49 rfl fun a k => ?_
 have m := St.start w0
 unfold d_laws_toIntS at h
 refine wr (pN 1 k rfl fun a k => nn (wr (pN 1 k rfl fun a k => sv k rfl (r_len (α := Int) hp4 k underlying29 rfl rfl) fun a k => oE h fun x5 hx6 h => s_mk hx6 te29 rfl rfl m k rfl rfl rfl rfl rfl rfl fun g7 w8 a v10 k m e hf9 => pN 1 k rfl fun a k => nn (wp_seq (wr (pN 1 k rfl fun a k => nn (wp_block (c_loop (fun n a w => ∃ (out34 : List Int) (v35 : Value) (F36 : List Nat) (u37 : World) (i39 : Int), K 22 [(0, v2), (3, v35), (4, .int .i64 i39)] a ∧ St [] w0 w [(F36, u37)] ∧ ow u37 F36 [v35] out34 ∧ d_laws_toIntS_L1 fu a1 n out34 i39 = some r) ?_ ?_ fu _ _ ?_))))))))
 · rintro a w ⟨_, _, _, _, _, _, _, _, h⟩
   exact nS h
 · rintro m40 a w33 ⟨out34, v35, F36, u37, i39, k, m, hf38, h⟩
   rw [d_laws_toIntS_L1_s] at h
   unfold d_laws_toIntS_L1_B at h
   refine wp_seq (wr (pN 2 k rfl fun a k => sv k rfl (r_len (α := Int) hp4 k underlying29 rfl rfl) fun a k => pN 1 k rfl fun a k => nn (cI h k rfl (fun hb41 h => ?_) fun hb41 h => ?_)))
   · refine wp_skip (nm_then ?_)
     refine wp_seq (wp_block (wp_region_lit (pN 4 k rfl fun a k => oE h fun x42 hx43 h => sv k rfl (r_ixa hp4 hx43 k ts29 rfl rfl rfl) fun a k => sv k rfl (r_lde1 hp4 (m.a00 (Enc.rd_lt hp4)) hx43 0 t13 k rfl rfl rfl rfl) fun a k => oE h fun x44 hx45 h => sv k rfl (r_ixa (Enc.ow_rd hf38) hx45 k ts29 rfl rfl rfl) fun a k => s_ste (α := Int) (sz := 1) (y := x42) sizeOf3 hx45 m 0 hf38 0 k rfl rfl rfl rfl rfl rfl rfl rfl rfl rfl rfl rfl fun w46 a k e m hf47 => wpList_nil (nm_block (nm_then ?_)))))
     refine wp_region_lit (pN 3 k rfl fun a k => nn ?_)
     exact ⟨setx out34 i39 x42, v35, F36, w46, w64 (i39 + 1), k.keep [0, 3, 4] rfl, m.sel [0] rfl (by decide), hf47, h⟩
   refine wp_exit (ex_then (ex_then (ex_same (nm_then ?_))))
   refine wr (pN 2 k rfl fun a k => nn (wp_ret ?_))
   cases h
   exact finR1 k rfl (RV.tmp k rfl) ⟨_, F36, rfl, m.ext, (Enc.ow_agr hf38 (m.a 0 rfl)), (m.fresh 0 rfl)⟩
 exact ⟨x5, v10, [g7], w8, 0, k.keep [0, 3, 4] rfl, m.sel [0] rfl (by decide), hf9, h⟩
theorem c_laws_toIntSS (fu : Nat) {w0 : World} (a1 : List (List Int)) {v2 : Value} {F3 : List Nat} (hp4 : rd w0 F3 [v2] a1) {r : (List (List Int))}
    (h : d_laws_toIntSS fu a1 = some r) :
    Calls Tryz.prog 35 #[v2] w0 fun e w => ∃ (v0 : Value) (G0 : List Nat), e = .returned (v0) ∧ Ext [] w0 w ∧ ow w G0 [v0] r ∧ (∀ b ∈ G0, w0.heap.size ≤ b) := by
 refine enter (vs := [_]) func35 rfl ntmps35 rfl fun a k => ?_
 have m := St.start w0
 unfold d_laws_toIntSS at h
 refine wr (pN 1 k rfl fun a k => nn (wr (pN 1 k rfl fun a k => sv k rfl (r_len (α := List Int) hp4 k underlying47 rfl rfl) fun a k => oE h fun x5 hx6 h => s_mkN hx6 te47 (fun w => ow_nil w) rfl m k rfl rfl rfl rfl rfl rfl fun g7 w8 a v10 k m e hf9 => pN 1 k rfl fun a k => nn (wp_seq (wr (pN 1 k rfl fun a k => nn (wp_block (c_loop (fun n a w => ∃ (out92 : List (List Int)) (v93 : Value) (F94 : List Nat) (u95 : World) (i97 : Int), K 23 [(0, v2), (3, v93), (4, .int .i64 i97)] a ∧ St [] w0 w [(F94, u95)] ∧ ow u95 F94 [v93] out92 ∧ d_laws_toIntSS_L1 fu a1 n out92 i97 = some r) ?_ ?_ fu _ _ ?_))))))))
 · rintro a w ⟨_, _, _, _, _, _, _, _, h⟩
   exact nS h
 · rintro m98 a w91 ⟨out92, v93, F94, u95, i97, k, m, hf96, h⟩
   rw [d_laws_toIntSS_L1_s] at h
   unfold d_laws_toIntSS_L1_B at h
   refine wp_seq (wr (pN 2 k rfl fun a k => sv k rfl (r_len (α := List Int) hp4 k underlying47 rfl rfl) fun a k => pN 1 k rfl fun a k => nn (cI h k rfl (fun hb99 h => ?_) fun hb99 h => ?_)))
   · refine wp_skip (nm_then ?_)
     refine wp_seq (wp_block (wp_region_lit (pN 4 k rfl fun a k => oE h fun x100 hx101 h => sv k rfl (r_ixa hp4 hx101 k ts47 rfl rfl rfl) fun a k => ?_)))
     obtain ⟨G102, cs103, hG104, hr105, hp106, hb107⟩ := rd_get hp4 (ix_some hx101).2.2
     obtain ⟨v108, rfl⟩ : ∃ v, cs103 = [v] := by obtain ⟨_, _, hq, _⟩ := hr105; exact ⟨_, hq⟩
     refine sv k rfl (r_ld1 t129 (hp106.agr (m.a00 (Enc.rd_lt hp4)) hb107) k rfl rfl) fun a k => oE h fun x109 hx110 h => s_call k call49 rfl rfl rfl rfl rfl (c_laws_toIntS fu _ (Enc.rd_agr hr105 (m.a00 (Enc.rd_lt hr105))) hx110) fun e111 w112 hR => ?_
     obtain ⟨v117, F113, rfl, e, hf114, hfr115⟩ := hR
     refine ⟨_, rfl, fun a k => ?_⟩
     have m := m.new e F113 (fun b hb => ⟨hfr115 b hb, Enc.rd_lt (Enc.ow_rd hf114) b hb⟩) (Enc.ow_nd hf114)
     refine oE h fun x118 hx119 h => sv k rfl (r_ixa (Enc.ow_rd hf96) hx119 k ts47 rfl rfl rfl) fun a k => ?_
     obtain ⟨G120, cs121, hG122, hr123, hp124, hb125⟩ := rd_get (Enc.ow_rd hf96) (ix_some hx119).2.2
     obtain ⟨v126, rfl⟩ : ∃ v, cs121 = [v] := by obtain ⟨_, _, hq, _⟩ := hr123; exact ⟨_, hq⟩
     obtain ⟨A127, B128, m, hH129, hO130⟩ := m.opn 1 rfl hf96 hx119 hp124 rfl (M' := [(F113, w112)]) rfl
     refine s_stH1 (α := List Int) (sz := 1) (cs' := [v117]) sizeOf29 m 0 hH129 0 k (rd_c (Enc.ow_rd hf114)) (rd_o (Enc.ow_rd hf114)) rfl rfl rfl rfl rfl rfl rfl rfl rfl rfl fun w131 a k e m hH132 => ?_
     obtain ⟨F133, m, hf134⟩ := (m.sel [0, 2] rfl (by decide)).cls hH132 hf114
     refine wpList_nil (nm_block (nm_then ?_))
     refine wp_region_lit (pN 3 k rfl fun a k => nn ?_)
     exact ⟨setx out92 i97 x109, v93, F133, w131, w64 (i97 + 1), k.keep [0, 3, 4] rfl, m.sel [0] rfl (by decide), hf134, h⟩
   refine wp_exit (ex_then (ex_then (ex_same (nm_then ?_))))
   refine wr (pN 2 k rfl fun a k => nn (wp_ret ?_))
   cases h
   exact finR1 k rfl (RV.tmp k rfl) ⟨_, F94, rfl, m.ext, (Enc.ow_agr hf96 (m.a 0 rfl)), (m.fresh 0 rfl)⟩
 exact ⟨x5, v10, [g7], w8, 0, k.keep [0, 3, 4] rfl, m.sel [0] rfl (by decide), hf9, h⟩
theorem c_spec_l1In (fu : Nat) {w0 : World} (x1 : Int) (lo2 : Int) (hi3 : Int)  {r : Bool}
    (h : d_spec_l1In fu x1 lo2 hi3 = some r) :
    Calls Tryz.prog 136 #[.int .i64 x1, .int .i64 lo2, .int .i64 hi3] w0 fun e w => e = .returned (.bool (r)) ∧ Ext [] w0 w := by
 refine enter (vs := [_, _, _]) func136 rfl ntmps136 rfl fun a k => ?_
 have m := St.start w0
 unfold d_spec_l1In at h
 refine wr (pN 1 k rfl fun a k => nn (wr (pN 4 k rfl fun a k => bsplit (decide (x1 ≥ lo2)) (fun hb4 => ?_) (fun hb4 => ?_))))
 · have h := bif_t hb4 h
   refine rB k 10 rfl hb4 fun k => pN 5 k rfl fun a k => nn (wp_ret (fS h k m rfl rfl))
 have h := bif_f hb4 h
 refine rB k 10 rfl hb4 fun k => pN 5 k rfl fun a k => nn (wp_ret (fS h k m rfl rfl))
theorem c_spec_l2Side (fu : Nat) {w0 : World} (x1 : Int)  {r : Bool}
    (h : d_spec_l2Side fu x1 = some r) :
    Calls Tryz.prog 197 #[.int .i64 x1] w0 fun e w => e = .returned (.bool (r)) ∧ Ext [] w0 w := by
 refine enter (vs := [_]) func197 rfl ntmps197 rfl fun a k => ?_
 have m := St.start w0
 unfold d_spec_l2Side at h
 refine wr (pN 1 k rfl fun a k => nn (wr (pN 1 k rfl fun a k => oE h fun x2 hx3 h => cE k m call136 rfl rfl rfl (c_spec_l1In fu _ _ _  hx3) fun w5 e a k m => pN 1 k rfl fun a k => nn (wp_ret (fS h k m rfl rfl)))))
theorem c_spec_PalletOk (fu : Nat) {w0 : World} (x1 : Pallet)  {r : Bool}
    (h : d_spec_PalletOk fu x1 = some r) :
    Calls Tryz.prog 174 #[.agg (Flat.e (x1)).toArray] w0 fun e w => e = .returned (.bool (r)) ∧ Ext [] w0 w := by
 refine enter (vs := [_]) func174 rfl ntmps174 rfl fun a k => ?_
 have m := St.start w0
 unfold d_spec_PalletOk at h
 refine wr (s_box (cs := [.int .i64 x1.fW, .int .i64 x1.fD, .int .i64 x1.fH, .int .i64 x1.fGram]) m k rfl rfl rfl rfl rfl rfl fun b2 w4 a k m e hb3 => pN 1 k rfl fun a k => nn (wr (sv k rfl (r_fa fa35_0 k rfl rfl) fun a k => sv k rfl (r_ldb t13 m 0 hb3 0 k rfl rfl rfl rfl rfl) fun a k => oE h fun x5 hx6 h => cE k m call197 rfl rfl rfl (c_spec_l2Side fu _  hx6) fun w8 e a k m => pN 1 k rfl fun a k => bsplit (x5) (fun hb9 => ?_) (fun hb9 => ?_))))
 · have h := bif_t hb9 h
   refine rB k 6 rfl hb9 fun k => sv k rfl (r_fa fa35_1 k rfl rfl) fun a k => sv k rfl (r_ldb t13 m 0 hb3 1 k rfl rfl rfl rfl rfl) fun a k => oE h fun x10 hx11 h => cE k m call197 rfl rfl rfl (c_spec_l2Side fu _  hx11) fun w13 e a k m => pN 2 k rfl fun a k => bsplit (x10) (fun hb14 => ?_) (fun hb14 => ?_)
   · have h := bif_t hb14 h
     refine rB k 11 rfl hb14 fun k => sv k rfl (r_fa fa35_2 k rfl rfl) fun a k => sv k rfl (r_ldb t13 m 0 hb3 2 k rfl rfl rfl rfl rfl) fun a k => oE h fun x15 hx16 h => cE k m call197 rfl rfl rfl (c_spec_l2Side fu _  hx16) fun w18 e a k m => pN 2 k rfl fun a k => bsplit (x15) (fun hb19 => ?_) (fun hb19 => ?_)
     · have h := bif_t hb19 h
       refine rB k 16 rfl hb19 fun k => sv k rfl (r_fa fa35_3 k rfl rfl) fun a k => sv k rfl (r_ldb t13 m 0 hb3 3 k rfl rfl rfl rfl rfl) fun a k => oE h fun x20 hx21 h => cE k m call136 rfl rfl rfl (c_spec_l1In fu _ _ _  hx21) fun w23 e a k m => pN 2 k rfl fun a k => nn (wp_ret (fS h k m rfl rfl))
     have h := bif_f hb19 h
     refine rB k 16 rfl hb19 fun k => pN 5 k rfl fun a k => nn (wp_ret (fS h k m rfl rfl))
   have h := bif_f hb14 h
   refine rB k 11 rfl hb14 fun k => pN 10 k rfl fun a k => nn (wp_ret (fS h k m rfl rfl))
 have h := bif_f hb9 h
 refine rB k 6 rfl hb9 fun k => pN 15 k rfl fun a k => nn (wp_ret (fS h k m rfl rfl))
theorem c_spec_l2Id (fu : Nat) {w0 : World} (x1 : Int)  {r : Bool}
    (h : d_spec_l2Id fu x1 = some r) :
    Calls Tryz.prog 175 #[.int .i64 x1] w0 fun e w => e = .returned (.bool (r)) ∧ Ext [] w0 w := by
 refine enter (vs := [_]) func175 rfl ntmps175 rfl fun a k => ?_
 have m := St.start w0
 unfold d_spec_l2Id at h
 refine wr (pN 1 k rfl fun a k => nn (wr (pN 1 k rfl fun a k => oE h fun x2 hx3 h => cE k m call136 rfl rfl rfl (c_spec_l1In fu _ _ _  hx3) fun w5 e a k m => pN 1 k rfl fun a k => nn (wp_ret (fS h k m rfl rfl)))))
theorem c_spec_TypeOk (fu : Nat) {w0 : World} (x1 : Typ)  {r : Bool}
    (h : d_spec_TypeOk fu x1 = some r) :
    Calls Tryz.prog 176 #[.agg (Flat.e (x1)).toArray] w0 fun e w => e = .returned (.bool (r)) ∧ Ext [] w0 w := by
 refine enter (vs := [_]) func176 rfl ntmps176 rfl fun a k => ?_
 have m := St.start w0
 unfold d_spec_TypeOk at h
 refine wr (s_box (cs := [.int .i64 x1.fId, .int .i64 x1.fW, .int .i64 x1.fH, .int .i64 x1.fD, .int .i64 x1.fTare, .int .i64 x1.fGram, .int .i64 x1.fCost]) m k rfl rfl rfl rfl rfl rfl fun b2 w4 a k m e hb3 => pN 1 k rfl fun a k => nn (wr (sv k rfl (r_fa fa92_0 k rfl rfl) fun a k => sv k rfl (r_ldb t13 m 0 hb3 0 k rfl rfl rfl rfl rfl) fun a k => oE h fun x5 hx6 h => cE k m call175 rfl rfl rfl (c_spec_l2Id fu _  hx6) fun w8 e a k m => pN 1 k rfl fun a k => bsplit (x5) (fun hb9 => ?_) (fun hb9 => ?_))))
 · have h := bif_t hb9 h
   refine rB k 6 rfl hb9 fun k => sv k rfl (r_fa fa92_1 k rfl rfl) fun a k => sv k rfl (r_ldb t13 m 0 hb3 1 k rfl rfl rfl rfl rfl) fun a k => oE h fun x10 hx11 h => cE k m call197 rfl rfl rfl (c_spec_l2Side fu _  hx11) fun w13 e a k m => pN 2 k rfl fun a k => bsplit (x10) (fun hb14 => ?_) (fun hb14 => ?_)
   · have h := bif_t hb14 h
     refine rB k 11 rfl hb14 fun k => sv k rfl (r_fa fa92_2 k rfl rfl) fun a k => sv k rfl (r_ldb t13 m 0 hb3 2 k rfl rfl rfl rfl rfl) fun a k => oE h fun x15 hx16 h => cE k m call197 rfl rfl rfl (c_spec_l2Side fu _  hx16) fun w18 e a k m => pN 2 k rfl fun a k => bsplit (x15) (fun hb19 => ?_) (fun hb19 => ?_)
     · have h := bif_t hb19 h
       refine rB k 16 rfl hb19 fun k => sv k rfl (r_fa fa92_3 k rfl rfl) fun a k => sv k rfl (r_ldb t13 m 0 hb3 3 k rfl rfl rfl rfl rfl) fun a k => oE h fun x20 hx21 h => cE k m call197 rfl rfl rfl (c_spec_l2Side fu _  hx21) fun w23 e a k m => pN 2 k rfl fun a k => bsplit (x20) (fun hb24 => ?_) (fun hb24 => ?_)
       · have h := bif_t hb24 h
         refine rB k 21 rfl hb24 fun k => sv k rfl (r_fa fa92_4 k rfl rfl) fun a k => sv k rfl (r_ldb t13 m 0 hb3 4 k rfl rfl rfl rfl rfl) fun a k => oE h fun x25 hx26 h => cE k m call136 rfl rfl rfl (c_spec_l1In fu _ _ _  hx26) fun w28 e a k m => pN 2 k rfl fun a k => bsplit (x25) (fun hb29 => ?_) (fun hb29 => ?_)
         · have h := bif_t hb29 h
           refine rB k 26 rfl hb29 fun k => sv k rfl (r_fa fa92_5 k rfl rfl) fun a k => sv k rfl (r_ldb t13 m 0 hb3 5 k rfl rfl rfl rfl rfl) fun a k => oE h fun x30 hx31 h => cE k m call136 rfl rfl rfl (c_spec_l1In fu _ _ _  hx31) fun w33 e a k m => pN 2 k rfl fun a k => bsplit (x30) (fun hb34 => ?_) (fun hb34 => ?_)
           · have h := bif_t hb34 h
             refine rB k 31 rfl hb34 fun k => sv k rfl (r_fa fa92_6 k rfl rfl) fun a k => sv k rfl (r_ldb t13 m 0 hb3 6 k rfl rfl rfl rfl rfl) fun a k => oE h fun x35 hx36 h => cE k m call136 rfl rfl rfl (c_spec_l1In fu _ _ _  hx36) fun w38 e a k m => pN 2 k rfl fun a k => ?_
             have k := k.keep [2] rfl
             refine nn (wp_ret (fS h k m rfl rfl))
           have h := bif_f hb34 h
           refine rB k 31 rfl hb34 fun k => pN 5 k rfl fun a k => ?_
           have k := k.keep [2] rfl
           refine nn (wp_ret (fS h k m rfl rfl))
         have h := bif_f hb29 h
         refine rB k 26 rfl hb29 fun k => pN 10 k rfl fun a k => ?_
         have k := k.keep [2] rfl
         refine nn (wp_ret (fS h k m rfl rfl))
       have h := bif_f hb24 h
       refine rB k 21 rfl hb24 fun k => pN 15 k rfl fun a k => ?_
       have k := k.keep [2] rfl
       refine nn (wp_ret (fS h k m rfl rfl))
     have h := bif_f hb19 h
     refine rB k 16 rfl hb19 fun k => pN 20 k rfl fun a k => ?_
     have k := k.keep [2] rfl
     refine nn (wp_ret (fS h k m rfl rfl))
   have h := bif_f hb14 h
   refine rB k 11 rfl hb14 fun k => pN 25 k rfl fun a k => ?_
   have k := k.keep [2] rfl
   refine nn (wp_ret (fS h k m rfl rfl))
 have h := bif_f hb9 h
 refine rB k 6 rfl hb9 fun k => pN 30 k rfl fun a k => ?_
 have k := k.keep [2] rfl
 refine nn (wp_ret (fS h k m rfl rfl))
theorem c_spec_ItemOk (fu : Nat) {w0 : World} (x1 : Item)  {r : Bool}
    (h : d_spec_ItemOk fu x1 = some r) :
    Calls Tryz.prog 177 #[.agg (Flat.e (x1)).toArray] w0 fun e w => e = .returned (.bool (r)) ∧ Ext [] w0 w := by
 refine enter (vs := [_]) func177 rfl ntmps177 rfl fun a k => ?_
 have m := St.start w0
 unfold d_spec_ItemOk at h
 refine wr (s_box (cs := [.int .i64 x1.fId, .int .i64 x1.fW, .int .i64 x1.fH, .int .i64 x1.fD, .int .i64 x1.fGram, .int .i64 x1.fClass, .int .i64 x1.fCount]) m k rfl rfl rfl rfl rfl rfl fun b2 w4 a k m e hb3 => pN 1 k rfl fun a k => nn (wr (sv k rfl (r_fa fa120_0 k rfl rfl) fun a k => sv k rfl (r_ldb t13 m 0 hb3 0 k rfl rfl rfl rfl rfl) fun a k => oE h fun x5 hx6 h => cE k m call175 rfl rfl rfl (c_spec_l2Id fu _  hx6) fun w8 e a k m => pN 1 k rfl fun a k => bsplit (x5) (fun hb9 => ?_) (fun hb9 => ?_))))
 · have h := bif_t hb9 h
   refine rB k 6 rfl hb9 fun k => sv k rfl (r_fa fa120_1 k rfl rfl) fun a k => sv k rfl (r_ldb t13 m 0 hb3 1 k rfl rfl rfl rfl rfl) fun a k => oE h fun x10 hx11 h => cE k m call197 rfl rfl rfl (c_spec_l2Side fu _  hx11) fun w13 e a k m => pN 2 k rfl fun a k => bsplit (x10) (fun hb14 => ?_) (fun hb14 => ?_)
   · have h := bif_t hb14 h
     refine rB k 11 rfl hb14 fun k => sv k rfl (r_fa fa120_2 k rfl rfl) fun a k => sv k rfl (r_ldb t13 m 0 hb3 2 k rfl rfl rfl rfl rfl) fun a k => oE h fun x15 hx16 h => cE k m call197 rfl rfl rfl (c_spec_l2Side fu _  hx16) fun w18 e a k m => pN 2 k rfl fun a k => bsplit (x15) (fun hb19 => ?_) (fun hb19 => ?_)
     · have h := bif_t hb19 h
       refine rB k 16 rfl hb19 fun k => sv k rfl (r_fa fa120_3 k rfl rfl) fun a k => sv k rfl (r_ldb t13 m 0 hb3 3 k rfl rfl rfl rfl rfl) fun a k => oE h fun x20 hx21 h => cE k m call197 rfl rfl rfl (c_spec_l2Side fu _  hx21) fun w23 e a k m => pN 2 k rfl fun a k => bsplit (x20) (fun hb24 => ?_) (fun hb24 => ?_)
       · have h := bif_t hb24 h
         refine rB k 21 rfl hb24 fun k => sv k rfl (r_fa fa120_4 k rfl rfl) fun a k => sv k rfl (r_ldb t13 m 0 hb3 4 k rfl rfl rfl rfl rfl) fun a k => oE h fun x25 hx26 h => cE k m call136 rfl rfl rfl (c_spec_l1In fu _ _ _  hx26) fun w28 e a k m => pN 2 k rfl fun a k => bsplit (x25) (fun hb29 => ?_) (fun hb29 => ?_)
         · have h := bif_t hb29 h
           refine rB k 26 rfl hb29 fun k => sv k rfl (r_fa fa120_5 k rfl rfl) fun a k => sv k rfl (r_ldb t13 m 0 hb3 5 k rfl rfl rfl rfl rfl) fun a k => oE h fun x30 hx31 h => cE k m call136 rfl rfl rfl (c_spec_l1In fu _ _ _  hx31) fun w33 e a k m => pN 2 k rfl fun a k => bsplit (x30) (fun hb34 => ?_) (fun hb34 => ?_)
           · have h := bif_t hb34 h
             refine rB k 31 rfl hb34 fun k => sv k rfl (r_fa fa120_6 k rfl rfl) fun a k => sv k rfl (r_ldb t13 m 0 hb3 6 k rfl rfl rfl rfl rfl) fun a k => oE h fun x35 hx36 h => cE k m call136 rfl rfl rfl (c_spec_l1In fu _ _ _  hx36) fun w38 e a k m => pN 2 k rfl fun a k => ?_
             have k := k.keep [2] rfl
             refine nn (wp_ret (fS h k m rfl rfl))
           have h := bif_f hb34 h
           refine rB k 31 rfl hb34 fun k => pN 5 k rfl fun a k => ?_
           have k := k.keep [2] rfl
           refine nn (wp_ret (fS h k m rfl rfl))
         have h := bif_f hb29 h
         refine rB k 26 rfl hb29 fun k => pN 10 k rfl fun a k => ?_
         have k := k.keep [2] rfl
         refine nn (wp_ret (fS h k m rfl rfl))
       have h := bif_f hb24 h
       refine rB k 21 rfl hb24 fun k => pN 15 k rfl fun a k => ?_
       have k := k.keep [2] rfl
       refine nn (wp_ret (fS h k m rfl rfl))
     have h := bif_f hb19 h
     refine rB k 16 rfl hb19 fun k => pN 20 k rfl fun a k => ?_
     have k := k.keep [2] rfl
     refine nn (wp_ret (fS h k m rfl rfl))
   have h := bif_f hb14 h
   refine rB k 11 rfl hb14 fun k => pN 25 k rfl fun a k => ?_
   have k := k.keep [2] rfl
   refine nn (wp_ret (fS h k m rfl rfl))
 have h := bif_f hb9 h
 refine rB k 6 rfl hb9 fun k => pN 30 k rfl fun a k => ?_
 have k := k.keep [2] rfl
 refine nn (wp_ret (fS h k m rfl rfl))
theorem c_spec_BoundsOk (fu : Nat) {w0 : World} (r1 : Request) {cs2 : List Value} {F3 : List Nat} (hp4 : rd w0 F3 cs2 r1) {r : Bool}
    (h : d_spec_BoundsOk fu r1 = some r) :
    Calls Tryz.prog 132 #[.agg cs2.toArray] w0 fun e w => e = .returned (.bool (r)) ∧ Ext [] w0 w := by
 refine enter (vs := [_]) func132 rfl ntmps132 rfl fun a k => ?_
 have m := St.start w0
 obtain ⟨v5, F6, v7, F8, v9, F10, rfl, rfl, hf11, hf12, hf13⟩ := hp4
 unfold d_spec_BoundsOk at h
 refine wr (s_box (cs := [.int .i64 r1.fWay, .int .i64 r1.fPallet.fW, .int .i64 r1.fPallet.fD, .int .i64 r1.fPallet.fH, .int .i64 r1.fPallet.fGram, .int .i64 r1.fClasses, v5, v7, .int .i64 r1.fMaster, v9]) m k rfl rfl rfl rfl rfl rfl fun b14 w16 a k m e hb15 => pN 1 k rfl fun a k => nn (c_cut (fun a w => K 111 [(1, .pointer (some (⟨b14, 0, none⟩ : Addr)))] a ∧ St [] w0 w [([b14], w16)] ∧ d_spec_BoundsOk_J2 fu r1 = some r) ?_ ?_))
 · rintro a w44 ⟨k, m, h⟩
   unfold d_spec_BoundsOk_J2 at h
   refine wp_seq (wr (pN 1 k rfl fun a k => nn (wp_block (c_loop (fun n a w => ∃ (i109 : Int), K 111 [(1, .pointer (some (⟨b14, 0, none⟩ : Addr))), (3, .int .i64 i109)] a ∧ St [] w0 w [([b14], w16)] ∧ d_spec_BoundsOk_L3 fu r1 n i109 = some r) ?_ ?_ fu _ _ ?_))))
   · rintro a w ⟨_, _, _, h⟩
     exact nS h
   · rintro m110 a w108 ⟨i109, k, m, h⟩
     rw [d_spec_BoundsOk_L3_s] at h
     unfold d_spec_BoundsOk_L3_B at h
     refine wp_seq (wr (pN 1 k rfl fun a k => sv k rfl (r_fa fa40_3 k rfl rfl) fun a k => sv k rfl (r_ldb t136 m 0 hb15 6 k rfl rfl rfl rfl rfl) fun a k => sv k rfl (r_len (α := Pair) hf11 k underlying36 rfl rfl) fun a k => pN 1 k rfl fun a k => nn (cI h k rfl (fun hb111 h => ?_) fun hb111 h => ?_)))
     · refine wp_skip (nm_then ?_)
       refine c_cut (fun a w => K 111 [(1, .pointer (some (⟨b14, 0, none⟩ : Addr))), (3, .int .i64 i109)] a ∧ St [] w0 w [([b14], w16)] ∧ d_spec_BoundsOk_J1 fu (d_spec_BoundsOk_L3 fu r1 m110) i109 = some r) ?_ ?_
       · rintro a w126 ⟨k, m, h⟩
         unfold d_spec_BoundsOk_J1 at h
         refine wp_region_lit (pN 3 k rfl fun a k => nn ?_)
         exact ⟨w64 (i109 + 1), k.keep [1, 3] rfl, m.sel [0] rfl (by decide), h⟩
       refine wp_block (wr (sv k rfl (r_fa fa40_3 k rfl rfl) fun a k => sv k rfl (r_ldb t136 m 0 hb15 6 k rfl rfl rfl rfl rfl) fun a k => pN 1 k rfl fun a k => oE h fun x127 hx128 h => sv k rfl (r_ixa hf11 hx128 k ts36 rfl rfl rfl) fun a k => sv k rfl (r_fa fa144_0 k rfl rfl) fun a k => sv k rfl (r_lde1 hf11 (m.a00 (Enc.rd_lt hf11)) hx128 0 t13 k rfl rfl rfl rfl) fun a k => oE h fun x129 hx130 h => cE k m call136 rfl rfl rfl (c_spec_l1In fu _ _ _  hx130) fun w132 e a k m => pN 2 k rfl fun a k => bsplit (!x129) (fun hb133 => ?_) (fun hb133 => ?_)))
       · have h := bif_t hb133 h
         refine rB k 63 rfl hb133 fun k => pN 9 k rfl fun a k => nn (wp_cond_true (k.ev rfl) (wr (pN 1 k rfl fun a k => nn (wp_ret (rt_block (rt_then (rt_then (rt_block (rt_then ?_)))))))))
         refine fS h k m rfl rfl
       have h := bif_f hb133 h
       refine rB k 63 rfl hb133 fun k => sv k rfl (r_fa fa40_3 k rfl rfl) fun a k => sv k rfl (r_ldb t136 m 0 hb15 6 k rfl rfl rfl rfl rfl) fun a k => pN 1 k rfl fun a k => oE h fun x134 hx135 h => sv k rfl (r_ixa hf11 hx128 k ts36 rfl rfl rfl) fun a k => sv k rfl (r_fa fa144_1 k rfl rfl) fun a k => sv k rfl (r_lde1 hf11 (m.a00 (Enc.rd_lt hf11)) hx128 1 t13 k rfl rfl rfl rfl) fun a k => oE h fun x136 hx137 h => cE k m call136 rfl rfl rfl (c_spec_l1In fu _ _ _  hx137) fun w139 e a k m => pN 2 k rfl fun a k => nn (cI h k rfl (fun hb140 h => ?_) fun hb140 h => ?_)
       · refine wr (pN 1 k rfl fun a k => nn (wp_ret (rt_block (rt_then (rt_then (rt_block (rt_then ?_)))))))
         refine fS h k m rfl rfl
       refine wp_skip (nm_block (nm_then ?_))
       exact ⟨k.keep [1, 3] rfl, m.sel [0] rfl (by decide), h⟩
     refine wp_exit (ex_then (ex_then (ex_same (nm_then ?_))))
     refine wp_seq (wr (pN 1 k rfl fun a k => nn (wp_block (c_loop (fun n a w => ∃ (i161 : Int), K 111 [(1, .pointer (some (⟨b14, 0, none⟩ : Addr))), (4, .int .i64 i161)] a ∧ St [] w0 w [([b14], w16)] ∧ d_spec_BoundsOk_L2 fu r1 n i161 = some r) ?_ ?_ fu _ _ ?_))))
     · rintro a w ⟨_, _, _, h⟩
       exact nS h
     · rintro m162 a w160 ⟨i161, k, m, h⟩
       rw [d_spec_BoundsOk_L2_s] at h
       unfold d_spec_BoundsOk_L2_B at h
       refine wp_seq (wr (pN 1 k rfl fun a k => sv k rfl (r_fa fa40_4 k rfl rfl) fun a k => sv k rfl (r_ldb t137 m 0 hb15 7 k rfl rfl rfl rfl rfl) fun a k => sv k rfl (r_len (α := Typ) hf12 k underlying37 rfl rfl) fun a k => pN 1 k rfl fun a k => nn (cI h k rfl (fun hb163 h => ?_) fun hb163 h => ?_)))
       · refine wp_skip (nm_then ?_)
         refine wp_seq (wp_block (wr (sv k rfl (r_fa fa40_4 k rfl rfl) fun a k => sv k rfl (r_ldb t137 m 0 hb15 7 k rfl rfl rfl rfl rfl) fun a k => pN 1 k rfl fun a k => oE h fun x164 hx165 h => sv k rfl (r_ixa hf12 hx165 k ts37 rfl rfl rfl) fun a k => sv k rfl (r_lde hf12 (m.a00 (Enc.rd_lt hf12)) hx165 ta92 k rfl rfl) fun a k => oE h fun x166 hx167 h => cE k m call176 rfl rfl rfl (c_spec_TypeOk fu (x164 : Typ)  hx167) fun w169 e a k m => pN 1 k rfl fun a k => nn (cI h k rfl (fun hb170 h => ?_) fun hb170 h => ?_))))
         · refine wr (pN 1 k rfl fun a k => nn (wp_ret (rt_block (rt_then (rt_then (rt_block (rt_then ?_)))))))
           refine fS h k m rfl rfl
         refine wp_skip (nm_block (nm_then ?_))
         refine wp_region_lit (pN 3 k rfl fun a k => nn ?_)
         exact ⟨w64 (i161 + 1), k.keep [1, 4] rfl, m.sel [0] rfl (by decide), h⟩
       refine wp_exit (ex_then (ex_then (ex_same (nm_then ?_))))
       refine wr (pN 1 k rfl fun a k => nn (wp_seq (wr (pN 1 k rfl fun a k => nn (wp_block (c_loop (fun n a w => ∃ (units196 : Int) (i197 : Int), K 111 [(1, .pointer (some (⟨b14, 0, none⟩ : Addr))), (5, .int .i64 units196), (6, .int .i64 i197)] a ∧ St [] w0 w [([b14], w16)] ∧ d_spec_BoundsOk_L1 fu r1 n units196 i197 = some r) ?_ ?_ fu _ _ ?_))))))
       · rintro a w ⟨_, _, _, _, h⟩
         exact nS h
       · rintro m198 a w195 ⟨units196, i197, k, m, h⟩
         rw [d_spec_BoundsOk_L1_s] at h
         unfold d_spec_BoundsOk_L1_B at h
         refine wp_seq (wr (pN 1 k rfl fun a k => sv k rfl (r_fa fa40_6 k rfl rfl) fun a k => sv k rfl (r_ldb t138 m 0 hb15 9 k rfl rfl rfl rfl rfl) fun a k => sv k rfl (r_len (α := Item) hf13 k underlying38 rfl rfl) fun a k => pN 1 k rfl fun a k => nn (cI h k rfl (fun hb199 h => ?_) fun hb199 h => ?_)))
         · refine wp_skip (nm_then ?_)
           refine wp_seq (wp_block (wp_seq (wr (sv k rfl (r_fa fa40_6 k rfl rfl) fun a k => sv k rfl (r_ldb t138 m 0 hb15 9 k rfl rfl rfl rfl rfl) fun a k => pN 1 k rfl fun a k => oE h fun x200 hx201 h => sv k rfl (r_ixa hf13 hx201 k ts38 rfl rfl rfl) fun a k => sv k rfl (r_lde hf13 (m.a00 (Enc.rd_lt hf13)) hx201 ta120 k rfl rfl) fun a k => oE h fun x202 hx203 h => cE k m call177 rfl rfl rfl (c_spec_ItemOk fu (x200 : Item)  hx203) fun w205 e a k m => pN 1 k rfl fun a k => nn (cI h k rfl (fun hb206 h => ?_) fun hb206 h => ?_)))))
           · refine wr (pN 1 k rfl fun a k => nn (wp_ret (rt_then (rt_block (rt_then (rt_then (rt_block (rt_then ?_))))))))
             refine fS h k m rfl rfl
           refine wp_skip (nm_then ?_)
           refine wp_region_lit (pN 1 k rfl fun a k => sv k rfl (r_fa fa40_6 k rfl rfl) fun a k => sv k rfl (r_ldb t138 m 0 hb15 9 k rfl rfl rfl rfl rfl) fun a k => pN 1 k rfl fun a k => oE h fun x207 hx208 h => sv k rfl (r_ixa hf13 hx201 k ts38 rfl rfl rfl) fun a k => sv k rfl (r_fa fa120_6 k rfl rfl) fun a k => sv k rfl (r_lde1 hf13 (m.a00 (Enc.rd_lt hf13)) hx201 6 t13 k rfl rfl rfl rfl) fun a k => pN 2 k rfl fun a k => wpList_nil (nm_block (nm_then ?_)))
           refine wp_region_lit (pN 3 k rfl fun a k => nn ?_)
           exact ⟨w64 (units196 + x200.fCount), w64 (i197 + 1), k.keep [1, 5, 6] rfl, m.sel [0] rfl (by decide), h⟩
         refine wp_exit (ex_then (ex_then (ex_same (nm_then ?_))))
         refine wr (pN 3 k rfl fun a k => nn (wp_ret (fS h k m rfl rfl)))
       exact ⟨0, 0, k.keep [1, 5, 6] rfl, m.sel [0] rfl (by decide), h⟩
     exact ⟨0, k.keep [1, 4] rfl, m.sel [0] rfl (by decide), h⟩
   exact ⟨0, k.keep [1, 3] rfl, m.sel [0] rfl (by decide), h⟩
 refine wr (sv k rfl (r_fa fa40_0 k rfl rfl) fun a k => sv k rfl (r_ldb t13 m 0 hb15 0 k rfl rfl rfl rfl rfl) fun a k => oE h fun x209 hx210 h => cE k m call136 rfl rfl rfl (c_spec_l1In fu _ _ _  hx210) fun w212 e a k m => pN 2 k rfl fun a k => bsplit (!x209) (fun hb213 => ?_) (fun hb213 => ?_))
 · have h := bif_t hb213 h
   refine rB k 11 rfl hb213 fun k => pN 36 k rfl fun a k => ?_
   have k := k.keep [1, 47] rfl
   refine nn (wp_cond_true (k.ev rfl) (wr (pN 1 k rfl fun a k => nn (wp_ret (rt_then ?_)))))
   refine fS h k m rfl rfl
 have h := bif_f hb213 h
 refine rB k 11 rfl hb213 fun k => sv k rfl (r_fa fa40_1 k rfl rfl) fun a k => sv k rfl (r_ldB ta35 m 0 hb15 1 k rfl rfl rfl rfl rfl rfl) fun a k => oE h fun x214 hx215 h => cE k m call174 rfl rfl rfl (c_spec_PalletOk fu (r1.fPallet : Pallet)  hx215) fun w217 e a k m => pN 3 k rfl fun a k => bsplit (!x214) (fun hb218 => ?_) (fun hb218 => ?_)
 · have h := bif_t hb218 h
   refine rB k 17 rfl hb218 fun k => pN 30 k rfl fun a k => ?_
   have k := k.keep [1, 47] rfl
   refine nn (wp_cond_true (k.ev rfl) (wr (pN 1 k rfl fun a k => nn (wp_ret (rt_then ?_)))))
   refine fS h k m rfl rfl
 have h := bif_f hb218 h
 refine rB k 17 rfl hb218 fun k => sv k rfl (r_fa fa40_2 k rfl rfl) fun a k => sv k rfl (r_ldb t13 m 0 hb15 5 k rfl rfl rfl rfl rfl) fun a k => oE h fun x219 hx220 h => cE k m call136 rfl rfl rfl (c_spec_l1In fu _ _ _  hx220) fun w222 e a k m => pN 3 k rfl fun a k => bsplit (!x219) (fun hb223 => ?_) (fun hb223 => ?_)
 · have h := bif_t hb223 h
   refine rB k 23 rfl hb223 fun k => pN 24 k rfl fun a k => ?_
   have k := k.keep [1, 47] rfl
   refine nn (wp_cond_true (k.ev rfl) (wr (pN 1 k rfl fun a k => nn (wp_ret (rt_then ?_)))))
   refine fS h k m rfl rfl
 have h := bif_f hb223 h
 refine rB k 23 rfl hb223 fun k => sv k rfl (r_fa fa40_3 k rfl rfl) fun a k => sv k rfl (r_ldb t136 m 0 hb15 6 k rfl rfl rfl rfl rfl) fun a k => sv k rfl (r_len (α := Pair) hf11 k underlying36 rfl rfl) fun a k => pN 3 k rfl fun a k => bsplit (decide (((r1.fPairs.length : Int)) > 16)) (fun hb224 => ?_) (fun hb224 => ?_)
 · have h := bif_t hb224 h
   refine rB k 29 rfl hb224 fun k => pN 18 k rfl fun a k => ?_
   have k := k.keep [1, 47] rfl
   refine nn (wp_cond_true (k.ev rfl) (wr (pN 1 k rfl fun a k => nn (wp_ret (rt_then ?_)))))
   refine fS h k m rfl rfl
 have h := bif_f hb224 h
 refine rB k 29 rfl hb224 fun k => sv k rfl (r_fa fa40_4 k rfl rfl) fun a k => sv k rfl (r_ldb t137 m 0 hb15 7 k rfl rfl rfl rfl rfl) fun a k => sv k rfl (r_len (α := Typ) hf12 k underlying37 rfl rfl) fun a k => oE h fun x225 hx226 h => cE k m call136 rfl rfl rfl (c_spec_l1In fu _ _ _  hx226) fun w228 e a k m => pN 3 k rfl fun a k => bsplit (!x225) (fun hb229 => ?_) (fun hb229 => ?_)
 · have h := bif_t hb229 h
   refine rB k 36 rfl hb229 fun k => pN 11 k rfl fun a k => ?_
   have k := k.keep [1, 47] rfl
   refine nn (wp_cond_true (k.ev rfl) (wr (pN 1 k rfl fun a k => nn (wp_ret (rt_then ?_)))))
   refine fS h k m rfl rfl
 have h := bif_f hb229 h
 refine rB k 36 rfl hb229 fun k => sv k rfl (r_fa fa40_5 k rfl rfl) fun a k => sv k rfl (r_ldb t13 m 0 hb15 8 k rfl rfl rfl rfl rfl) fun a k => oE h fun x230 hx231 h => cE k m call175 rfl rfl rfl (c_spec_l2Id fu _  hx231) fun w233 e a k m => pN 3 k rfl fun a k => bsplit (!x230) (fun hb234 => ?_) (fun hb234 => ?_)
 · have h := bif_t hb234 h
   refine rB k 42 rfl hb234 fun k => pN 5 k rfl fun a k => ?_
   have k := k.keep [1, 47] rfl
   refine nn (wp_cond_true (k.ev rfl) (wr (pN 1 k rfl fun a k => nn (wp_ret (rt_then ?_)))))
   refine fS h k m rfl rfl
 have h := bif_f hb234 h
 refine rB k 42 rfl hb234 fun k => sv k rfl (r_fa fa40_6 k rfl rfl) fun a k => sv k rfl (r_ldb t138 m 0 hb15 9 k rfl rfl rfl rfl rfl) fun a k => sv k rfl (r_len (α := Item) hf13 k underlying38 rfl rfl) fun a k => pN 2 k rfl fun a k => ?_
 have k := k.keep [1, 47] rfl
 refine nn (cI h k rfl (fun hb235 h => ?_) fun hb235 h => ?_)
 · refine wr (pN 1 k rfl fun a k => nn (wp_ret (rt_then ?_)))
   refine fS h k m rfl rfl
 refine wp_skip (nm_then ?_)
 exact ⟨k.keep [1] rfl, m.sel [0] rfl (by decide), h⟩
theorem c_spec_MasterOf (fu : Nat) {w0 : World} (r1 : Request) {cs2 : List Value} {F3 : List Nat} (hp4 : rd w0 F3 cs2 r1) {r : Typ × Bool}
    (h : d_spec_MasterOf fu r1 = some r) :
    Calls Tryz.prog 88 #[.agg cs2.toArray] w0 fun e w => e = .returned (.tuple #[.agg (Flat.e r.1).toArray, .bool (r.2)]) ∧ Ext [] w0 w := by
 refine enter (vs := [_]) func88 rfl ntmps88 rfl fun a k => ?_
 have m := St.start w0
 obtain ⟨v5, F6, v7, F8, v9, F10, rfl, rfl, hf11, hf12, hf13⟩ := hp4
 unfold d_spec_MasterOf at h
 refine wr (s_box (cs := [.int .i64 r1.fWay, .int .i64 r1.fPallet.fW, .int .i64 r1.fPallet.fD, .int .i64 r1.fPallet.fH, .int .i64 r1.fPallet.fGram, .int .i64 r1.fClasses, v5, v7, .int .i64 r1.fMaster, v9]) m k rfl rfl rfl rfl rfl rfl fun b14 w16 a k m e hb15 => s_alloc (cs := [.int .i64 0, .int .i64 0, .int .i64 0, .int .i64 0, .int .i64 0, .int .i64 0, .int .i64 0]) m k zeroValue92 rfl rfl rfl rfl rfl fun b17 w19 a k m e hb18 => pN 1 k rfl fun a k => nn (wp_seq (wr (pN 1 k rfl fun a k => nn (wp_block (c_loop (fun n a w => ∃ (i42 : Int), K 27 [(1, .pointer (some (⟨b14, 0, none⟩ : Addr))), (2, .pointer (some (⟨b17, 0, none⟩ : Addr))), (4, .int .i64 i42)] a ∧ St [] w0 w [([b14], w16), ([b17], w19)] ∧ d_spec_MasterOf_L1 fu r1 n i42 = some r) ?_ ?_ fu _ _ ?_))))))
 · rintro a w ⟨_, _, _, h⟩
   exact nS h
 · rintro m43 a w41 ⟨i42, k, m, h⟩
   rw [d_spec_MasterOf_L1_s] at h
   unfold d_spec_MasterOf_L1_B at h
   refine wp_seq (wr (pN 1 k rfl fun a k => sv k rfl (r_fa fa40_4 k rfl rfl) fun a k => sv k rfl (r_ldb t137 m 0 hb15 7 k rfl rfl rfl rfl rfl) fun a k => sv k rfl (r_len (α := Typ) hf12 k underlying37 rfl rfl) fun a k => pN 1 k rfl fun a k => nn (cI h k rfl (fun hb44 h => ?_) fun hb44 h => ?_)))
   · refine wp_skip (nm_then ?_)
     refine wp_seq (wp_block (wp_seq (d_go [] mixo m rfl fun w45 hMd => ?_)))
     have m := hMd
     have s := Ext.refl ([] : List Nat) w45
     refine dt k 0 rfl (by kernel_rfl) rfl s (fun _ _ _ => id) (fun w s => r_fa fa40_4 k rfl rfl) fun a k => dt k 1 rfl (by kernel_rfl) rfl s (fun _ _ _ => id) (fun w s => r_ld1 t137 (r := []) (hb15.at ((hMd.step s).a 0 rfl) 7 1 rfl rfl rfl) k rfl rfl) fun a k => dp k 2 rfl (by kernel_rfl) rfl s (fun _ _ _ => id) rfl fun a k => oE h fun x46 hx47 h => dt k 3 rfl (by kernel_rfl) rfl s (fun _ _ _ => id) (fun w s => r_ixa hf12 hx47 k ts37 rfl rfl rfl) fun a k => dt k 4 rfl (by kernel_rfl) rfl s (fun _ _ _ => id) (fun w s => r_fa fa92_0 k rfl rfl) fun a k => dt k 5 rfl (by kernel_rfl) rfl s (fun _ _ _ => id) (fun w s => r_lde1 hf12 ((hMd.step s).a00 (Enc.rd_lt hf12)) hx47 0 t13 k rfl rfl rfl rfl) fun a k => dt k 6 rfl (by kernel_rfl) rfl s (fun _ _ _ => id) (fun w s => r_fa fa40_5 k rfl rfl) fun a k => ?_
     refine dt k 7 rfl (by kernel_rfl) rfl s (fun _ _ _ => id) (fun w s => r_ld1 t13 (r := []) (hb15.at ((hMd.step s).a 0 rfl) 8 1 rfl rfl rfl) k rfl rfl) fun a k => dp k 8 rfl (by kernel_rfl) rfl s (fun _ _ _ => id) rfl fun a k => d_done (by kernel_rfl) ((nm_then ?_))
     refine cI h k rfl (fun hb48 h => ?_) fun hb48 h => ?_
     · refine wr (sv k rfl (r_fa fa40_4 k rfl rfl) fun a k => sv k rfl (r_ldb t137 m 0 hb15 7 k rfl rfl rfl rfl rfl) fun a k => pN 1 k rfl fun a k => oE h fun x49 hx50 h => sv k rfl (r_ixa hf12 hx47 k ts37 rfl rfl rfl) fun a k => sv k rfl (r_lde hf12 (m.a00 (Enc.rd_lt hf12)) hx47 ta92 k rfl rfl) fun a k => s_stb (cs' := [.int .i64 x46.fId, .int .i64 x46.fW, .int .i64 x46.fH, .int .i64 x46.fD, .int .i64 x46.fTare, .int .i64 x46.fGram, .int .i64 x46.fCost]) sizeOf92 m 1 hb18 0 k rfl rfl rfl rfl rfl rfl rfl rfl rfl rfl rfl fun w51 a k e m hb52 => pN 1 k rfl fun a k => nn (wp_ret (rt_block (rt_then (rt_then (rt_block (rt_then ?_)))))))
       cases h
       exact finR2 k rfl (RV.cA k rfl ta92 (hb52.at (m.a 1 rfl) 0 7 rfl rfl rfl) rfl) (RV.tmp k rfl) ⟨rfl, m.ext⟩
     refine wp_skip (nm_block (nm_then ?_))
     refine wp_region_lit (pN 3 k rfl fun a k => nn ?_)
     exact ⟨w64 (i42 + 1), k.keep [1, 2, 4] rfl, m.sel [0, 1] rfl (by decide), h⟩
   refine wp_exit (ex_then (ex_then (ex_same (nm_then ?_))))
   refine wr (sv k rfl (r_build bt92 k (ps := []) rfl rfl rfl) fun a k => s_stb (cs' := [.int .i64 0, .int .i64 0, .int .i64 0, .int .i64 0, .int .i64 0, .int .i64 0, .int .i64 0]) sizeOf92 m 1 hb18 0 k rfl rfl rfl rfl rfl rfl rfl rfl rfl rfl rfl fun w53 a k e m hb54 => pN 1 k rfl fun a k => nn (wp_ret ?_))
   cases h
   exact finR2 k rfl (RV.cA k rfl ta92 (hb54.at (m.a 1 rfl) 0 7 rfl rfl rfl) rfl) (RV.tmp k rfl) ⟨rfl, m.ext⟩
 exact ⟨0, k.keep [1, 2, 4] rfl, m.sel [1, 0] rfl (by decide), h⟩
theorem c_spec_l5Names (fu : Nat) {w0 : World} (r1 : Request) {cs2 : List Value} {F3 : List Nat} (hp4 : rd w0 F3 cs2 r1) {r : Bool}
    (h : d_spec_l5Names fu r1 = some r) :
    Calls Tryz.prog 133 #[.agg cs2.toArray] w0 fun e w => e = .returned (.bool (r)) ∧ Ext [] w0 w := by
 refine enter (vs := [_]) func133 rfl ntmps133 rfl fun a k => ?_
 have m := St.start w0
 obtain ⟨v5, F6, v7, F8, v9, F10, rfl, rfl, hf11, hf12, hf13⟩ := hp4
 unfold d_spec_l5Names at h
 refine wr (s_box (cs := [.int .i64 r1.fWay, .int .i64 r1.fPallet.fW, .int .i64 r1.fPallet.fD, .int .i64 r1.fPallet.fH, .int .i64 r1.fPallet.fGram, .int .i64 r1.fClasses, v5, v7, .int .i64 r1.fMaster, v9]) m k rfl rfl rfl rfl rfl rfl fun b14 w16 a k m e hb15 => pN 1 k rfl fun a k => nn (wp_seq (wr (pN 1 k rfl fun a k => nn (wp_block (c_loop (fun n a w => ∃ (i77 : Int), K 102 [(1, .pointer (some (⟨b14, 0, none⟩ : Addr))), (3, .int .i64 i77)] a ∧ St [] w0 w [([b14], w16)] ∧ d_spec_l5Names_L5 fu r1 n i77 = some r) ?_ ?_ fu _ _ ?_))))))
 · rintro a w ⟨_, _, _, h⟩
   exact nS h
 · rintro m78 a w76 ⟨i77, k, m, h⟩
   rw [d_spec_l5Names_L5_s] at h
   unfold d_spec_l5Names_L5_B at h
   refine wp_seq (wr (pN 1 k rfl fun a k => sv k rfl (r_fa fa40_4 k rfl rfl) fun a k => sv k rfl (r_ldb t137 m 0 hb15 7 k rfl rfl rfl rfl rfl) fun a k => sv k rfl (r_len (α := Typ) hf12 k underlying37 rfl rfl) fun a k => pN 1 k rfl fun a k => nn (cI h k rfl (fun hb79 h => ?_) fun hb79 h => ?_)))
   · refine wp_skip (nm_then ?_)
     refine wp_seq (wp_block (wr (pN 1 k rfl fun a k => nn (wp_block (c_loop (fun n a w => ∃ (kv98 : Int), K 102 [(1, .pointer (some (⟨b14, 0, none⟩ : Addr))), (3, .int .i64 i77), (4, .int .i64 kv98)] a ∧ St [] w0 w [([b14], w16)] ∧ d_spec_l5Names_L1 fu (d_spec_l5Names_L5 fu r1 m78) r1 i77 n kv98 = some r) ?_ ?_ fu _ _ ?_)))))
     · rintro a w ⟨_, _, _, h⟩
       exact nS h
     · rintro m99 a w97 ⟨kv98, k, m, h⟩
       rw [d_spec_l5Names_L1_s] at h
       unfold d_spec_l5Names_L1_B at h
       refine wp_seq (wr (pN 3 k rfl fun a k => nn (cI h k rfl (fun hb100 h => ?_) fun hb100 h => ?_)))
       · refine wp_skip (nm_then ?_)
         refine wp_seq (wp_block (wp_seq (d_go [] mixo m rfl fun w101 hMd => ?_)))
         have m := hMd
         have s := Ext.refl ([] : List Nat) w101
         refine dt k 0 rfl (by kernel_rfl) rfl s (fun _ _ _ => id) (fun w s => r_fa fa40_4 k rfl rfl) fun a k => dt k 1 rfl (by kernel_rfl) rfl s (fun _ _ _ => id) (fun w s => r_ld1 t137 (r := []) (hb15.at ((hMd.step s).a 0 rfl) 7 1 rfl rfl rfl) k rfl rfl) fun a k => dp k 2 rfl (by kernel_rfl) rfl s (fun _ _ _ => id) rfl fun a k => oE h fun x102 hx103 h => dt k 3 rfl (by kernel_rfl) rfl s (fun _ _ _ => id) (fun w s => r_ixa hf12 hx103 k ts37 rfl rfl rfl) fun a k => dt k 4 rfl (by kernel_rfl) rfl s (fun _ _ _ => id) (fun w s => r_fa fa92_0 k rfl rfl) fun a k => dt k 5 rfl (by kernel_rfl) rfl s (fun _ _ _ => id) (fun w s => r_lde1 hf12 ((hMd.step s).a00 (Enc.rd_lt hf12)) hx103 0 t13 k rfl rfl rfl rfl) fun a k => dt k 6 rfl (by kernel_rfl) rfl s (fun _ _ _ => id) (fun w s => r_fa fa40_4 k rfl rfl) fun a k => ?_
         refine dt k 7 rfl (by kernel_rfl) rfl s (fun _ _ _ => id) (fun w s => r_ld1 t137 (r := []) (hb15.at ((hMd.step s).a 0 rfl) 7 1 rfl rfl rfl) k rfl rfl) fun a k => dp k 8 rfl (by kernel_rfl) rfl s (fun _ _ _ => id) rfl fun a k => oE h fun x104 hx105 h => dt k 9 rfl (by kernel_rfl) rfl s (fun _ _ _ => id) (fun w s => r_ixa hf12 hx105 k ts37 rfl rfl rfl) fun a k => dt k 10 rfl (by kernel_rfl) rfl s (fun _ _ _ => id) (fun w s => r_fa fa92_0 k rfl rfl) fun a k => dt k 11 rfl (by kernel_rfl) rfl s (fun _ _ _ => id) (fun w s => r_lde1 hf12 ((hMd.step s).a00 (Enc.rd_lt hf12)) hx105 0 t13 k rfl rfl rfl rfl) fun a k => dp k 12 rfl (by kernel_rfl) rfl s (fun _ _ _ => id) rfl fun a k => d_done (by kernel_rfl) ((nm_then ?_))
         refine cI h k rfl (fun hb106 h => ?_) fun hb106 h => ?_
         · refine wr (pN 1 k rfl fun a k => nn (wp_ret (rt_block (rt_then (rt_then (rt_block (rt_block (rt_then (rt_then (rt_block (rt_then ?_)))))))))))
           refine fS h k m rfl rfl
         refine wp_skip (nm_block (nm_then ?_))
         refine wp_region_lit (pN 3 k rfl fun a k => nn ?_)
         exact ⟨w64 (kv98 + 1), k.keep [1, 3, 4] rfl, m.sel [0] rfl (by decide), h⟩
       refine wp_exit (ex_then (ex_then (ex_same (nm_block (nm_then ?_)))))
       refine wp_region_lit (pN 3 k rfl fun a k => nn ?_)
       exact ⟨w64 (i77 + 1), k.keep [1, 3] rfl, m.sel [0] rfl (by decide), h⟩
     exact ⟨0, k.keep [1, 3, 4] rfl, m.sel [0] rfl (by decide), h⟩
   refine wp_exit (ex_then (ex_then (ex_same (nm_then ?_))))
   refine wp_seq (wr (pN 1 k rfl fun a k => nn (wp_block (c_loop (fun n a w => ∃ (i175 : Int), K 102 [(1, .pointer (some (⟨b14, 0, none⟩ : Addr))), (5, .int .i64 i175)] a ∧ St [] w0 w [([b14], w16)] ∧ d_spec_l5Names_L4 fu r1 n i175 = some r) ?_ ?_ fu _ _ ?_))))
   · rintro a w ⟨_, _, _, h⟩
     exact nS h
   · rintro m176 a w174 ⟨i175, k, m, h⟩
     rw [d_spec_l5Names_L4_s] at h
     unfold d_spec_l5Names_L4_B at h
     refine wp_seq (wr (pN 1 k rfl fun a k => sv k rfl (r_fa fa40_6 k rfl rfl) fun a k => sv k rfl (r_ldb t138 m 0 hb15 9 k rfl rfl rfl rfl rfl) fun a k => sv k rfl (r_len (α := Item) hf13 k underlying38 rfl rfl) fun a k => pN 1 k rfl fun a k => nn (cI h k rfl (fun hb177 h => ?_) fun hb177 h => ?_)))
     · refine wp_skip (nm_then ?_)
       refine wp_seq (wp_block (wp_seq (wp_seq (d_go [] mixo m rfl fun w178 hMd => ?_))))
       have m := hMd
       have s := Ext.refl ([] : List Nat) w178
       refine dt k 0 rfl (by kernel_rfl) rfl s (fun _ _ _ => id) (fun w s => r_fa fa40_6 k rfl rfl) fun a k => dt k 1 rfl (by kernel_rfl) rfl s (fun _ _ _ => id) (fun w s => r_ld1 t138 (r := []) (hb15.at ((hMd.step s).a 0 rfl) 9 1 rfl rfl rfl) k rfl rfl) fun a k => dp k 2 rfl (by kernel_rfl) rfl s (fun _ _ _ => id) rfl fun a k => oE h fun x179 hx180 h => dt k 3 rfl (by kernel_rfl) rfl s (fun _ _ _ => id) (fun w s => r_ixa hf13 hx180 k ts38 rfl rfl rfl) fun a k => dt k 4 rfl (by kernel_rfl) rfl s (fun _ _ _ => id) (fun w s => r_fa fa120_5 k rfl rfl) fun a k => dt k 5 rfl (by kernel_rfl) rfl s (fun _ _ _ => id) (fun w s => r_lde1 hf13 ((hMd.step s).a00 (Enc.rd_lt hf13)) hx180 5 t13 k rfl rfl rfl rfl) fun a k => dt k 6 rfl (by kernel_rfl) rfl s (fun _ _ _ => id) (fun w s => r_fa fa40_2 k rfl rfl) fun a k => ?_
       refine dt k 7 rfl (by kernel_rfl) rfl s (fun _ _ _ => id) (fun w s => r_ld1 t13 (r := []) (hb15.at ((hMd.step s).a 0 rfl) 5 1 rfl rfl rfl) k rfl rfl) fun a k => dp k 8 rfl (by kernel_rfl) rfl s (fun _ _ _ => id) rfl fun a k => d_done (by kernel_rfl) ((nm_then ?_))
       refine cI h k rfl (fun hb181 h => ?_) fun hb181 h => ?_
       · refine wr (pN 1 k rfl fun a k => nn (wp_ret (rt_then (rt_block (rt_then (rt_then (rt_block (rt_then ?_))))))))
         refine fS h k m rfl rfl
       refine wp_skip (nm_then ?_)
       refine wr (pN 1 k rfl fun a k => nn (wp_block (c_loop (fun n a w => ∃ (kv200 : Int), K 102 [(1, .pointer (some (⟨b14, 0, none⟩ : Addr))), (5, .int .i64 i175), (6, .int .i64 kv200)] a ∧ St [] w0 w [([b14], w16)] ∧ d_spec_l5Names_L2 fu (d_spec_l5Names_L4 fu r1 m176) r1 i175 n kv200 = some r) ?_ ?_ fu _ _ ?_)))
       · rintro a w ⟨_, _, _, h⟩
         exact nS h
       · rintro m201 a w199 ⟨kv200, k, m, h⟩
         rw [d_spec_l5Names_L2_s] at h
         unfold d_spec_l5Names_L2_B at h
         refine wp_seq (wr (pN 3 k rfl fun a k => nn (cI h k rfl (fun hb202 h => ?_) fun hb202 h => ?_)))
         · refine wp_skip (nm_then ?_)
           refine wp_seq (wp_block (wp_seq (d_go [] mixo m rfl fun w203 hMd => ?_)))
           have m := hMd
           have s := Ext.refl ([] : List Nat) w203
           refine dt k 0 rfl (by kernel_rfl) rfl s (fun _ _ _ => id) (fun w s => r_fa fa40_6 k rfl rfl) fun a k => dt k 1 rfl (by kernel_rfl) rfl s (fun _ _ _ => id) (fun w s => r_ld1 t138 (r := []) (hb15.at ((hMd.step s).a 0 rfl) 9 1 rfl rfl rfl) k rfl rfl) fun a k => dp k 2 rfl (by kernel_rfl) rfl s (fun _ _ _ => id) rfl fun a k => oE h fun x204 hx205 h => dt k 3 rfl (by kernel_rfl) rfl s (fun _ _ _ => id) (fun w s => r_ixa hf13 hx205 k ts38 rfl rfl rfl) fun a k => dt k 4 rfl (by kernel_rfl) rfl s (fun _ _ _ => id) (fun w s => r_fa fa120_0 k rfl rfl) fun a k => dt k 5 rfl (by kernel_rfl) rfl s (fun _ _ _ => id) (fun w s => r_lde1 hf13 ((hMd.step s).a00 (Enc.rd_lt hf13)) hx205 0 t13 k rfl rfl rfl rfl) fun a k => dt k 6 rfl (by kernel_rfl) rfl s (fun _ _ _ => id) (fun w s => r_fa fa40_6 k rfl rfl) fun a k => ?_
           refine dt k 7 rfl (by kernel_rfl) rfl s (fun _ _ _ => id) (fun w s => r_ld1 t138 (r := []) (hb15.at ((hMd.step s).a 0 rfl) 9 1 rfl rfl rfl) k rfl rfl) fun a k => dp k 8 rfl (by kernel_rfl) rfl s (fun _ _ _ => id) rfl fun a k => oE h fun x206 hx207 h => dt k 9 rfl (by kernel_rfl) rfl s (fun _ _ _ => id) (fun w s => r_ixa hf13 hx207 k ts38 rfl rfl rfl) fun a k => dt k 10 rfl (by kernel_rfl) rfl s (fun _ _ _ => id) (fun w s => r_fa fa120_0 k rfl rfl) fun a k => dt k 11 rfl (by kernel_rfl) rfl s (fun _ _ _ => id) (fun w s => r_lde1 hf13 ((hMd.step s).a00 (Enc.rd_lt hf13)) hx207 0 t13 k rfl rfl rfl rfl) fun a k => dp k 12 rfl (by kernel_rfl) rfl s (fun _ _ _ => id) rfl fun a k => d_done (by kernel_rfl) ((nm_then ?_))
           refine cI h k rfl (fun hb208 h => ?_) fun hb208 h => ?_
           · refine wr (pN 1 k rfl fun a k => nn (wp_ret (rt_block (rt_then (rt_then (rt_block (rt_block (rt_then (rt_then (rt_block (rt_then ?_)))))))))))
             refine fS h k m rfl rfl
           refine wp_skip (nm_block (nm_then ?_))
           refine wp_region_lit (pN 3 k rfl fun a k => nn ?_)
           exact ⟨w64 (kv200 + 1), k.keep [1, 5, 6] rfl, m.sel [0] rfl (by decide), h⟩
         refine wp_exit (ex_then (ex_then (ex_same (nm_block (nm_then ?_)))))
         refine wp_region_lit (pN 3 k rfl fun a k => nn ?_)
         exact ⟨w64 (i175 + 1), k.keep [1, 5] rfl, m.sel [0] rfl (by decide), h⟩
       exact ⟨0, k.keep [1, 5, 6] rfl, m.sel [0] rfl (by decide), h⟩
     refine wp_exit (ex_then (ex_then (ex_same (nm_then ?_))))
     refine wp_seq (wr (pN 1 k rfl fun a k => nn (wp_block (c_loop (fun n a w => ∃ (i245 : Int), K 102 [(1, .pointer (some (⟨b14, 0, none⟩ : Addr))), (7, .int .i64 i245)] a ∧ St [] w0 w [([b14], w16)] ∧ d_spec_l5Names_L3 fu r1 n i245 = some r) ?_ ?_ fu _ _ ?_))))
     · rintro a w ⟨_, _, _, h⟩
       exact nS h
     · rintro m246 a w244 ⟨i245, k, m, h⟩
       rw [d_spec_l5Names_L3_s] at h
       unfold d_spec_l5Names_L3_B at h
       refine wp_seq (wr (pN 1 k rfl fun a k => sv k rfl (r_fa fa40_3 k rfl rfl) fun a k => sv k rfl (r_ldb t136 m 0 hb15 6 k rfl rfl rfl rfl rfl) fun a k => sv k rfl (r_len (α := Pair) hf11 k underlying36 rfl rfl) fun a k => pN 1 k rfl fun a k => nn (cI h k rfl (fun hb247 h => ?_) fun hb247 h => ?_)))
       · refine wp_skip (nm_then ?_)
         refine c_cut (fun a w => K 102 [(1, .pointer (some (⟨b14, 0, none⟩ : Addr))), (7, .int .i64 i245)] a ∧ St [] w0 w [([b14], w16)] ∧ d_spec_l5Names_J1 fu (d_spec_l5Names_L3 fu r1 m246) i245 = some r) ?_ ?_
         · rintro a w255 ⟨k, m, h⟩
           unfold d_spec_l5Names_J1 at h
           refine wp_region_lit (pN 3 k rfl fun a k => nn ?_)
           exact ⟨w64 (i245 + 1), k.keep [1, 7] rfl, m.sel [0] rfl (by decide), h⟩
         refine wp_block (wp_seq (d_go [] mixo m rfl fun w256 hMd => ?_))
         have m := hMd
         have s := Ext.refl ([] : List Nat) w256
         refine dt k 0 rfl (by kernel_rfl) rfl s (fun _ _ _ => id) (fun w s => r_fa fa40_3 k rfl rfl) fun a k => dt k 1 rfl (by kernel_rfl) rfl s (fun _ _ _ => id) (fun w s => r_ld1 t136 (r := []) (hb15.at ((hMd.step s).a 0 rfl) 6 1 rfl rfl rfl) k rfl rfl) fun a k => dp k 2 rfl (by kernel_rfl) rfl s (fun _ _ _ => id) rfl fun a k => oE h fun x257 hx258 h => dt k 3 rfl (by kernel_rfl) rfl s (fun _ _ _ => id) (fun w s => r_ixa hf11 hx258 k ts36 rfl rfl rfl) fun a k => dt k 4 rfl (by kernel_rfl) rfl s (fun _ _ _ => id) (fun w s => r_fa fa144_0 k rfl rfl) fun a k => dt k 5 rfl (by kernel_rfl) rfl s (fun _ _ _ => id) (fun w s => r_lde1 hf11 ((hMd.step s).a00 (Enc.rd_lt hf11)) hx258 0 t13 k rfl rfl rfl rfl) fun a k => dt k 6 rfl (by kernel_rfl) rfl s (fun _ _ _ => id) (fun w s => r_fa fa40_2 k rfl rfl) fun a k => ?_
         refine dt k 7 rfl (by kernel_rfl) rfl s (fun _ _ _ => id) (fun w s => r_ld1 t13 (r := []) (hb15.at ((hMd.step s).a 0 rfl) 5 1 rfl rfl rfl) k rfl rfl) fun a k => dp k 8 rfl (by kernel_rfl) rfl s (fun _ _ _ => id) rfl fun a k => dp k 9 rfl (by kernel_rfl) rfl s (fun _ _ _ => id) rfl fun a k => bsplit (decide (x257.fA ≥ r1.fClasses)) (fun hb259 => ?_) (fun hb259 => ?_)
         · have h := bif_t hb259 h
           refine rB k 85 rfl hb259 fun k => ds k 10 rfl (by kernel_rfl) rfl s (fun _ _ _ => id) fun a k => ds k 11 rfl (by kernel_rfl) rfl s (fun _ _ _ => id) fun a k => ds k 12 rfl (by kernel_rfl) rfl s (fun _ _ _ => id) fun a k => ds k 13 rfl (by kernel_rfl) rfl s (fun _ _ _ => id) fun a k => ds k 14 rfl (by kernel_rfl) rfl s (fun _ _ _ => id) fun a k => ds k 15 rfl (by kernel_rfl) rfl s (fun _ _ _ => id) fun a k => ds k 16 rfl (by kernel_rfl) rfl s (fun _ _ _ => id) fun a k => ds k 17 rfl (by kernel_rfl) rfl s (fun _ _ _ => id) fun a k => ds k 18 rfl (by kernel_rfl) rfl s (fun _ _ _ => id) fun a k => dp k 19 rfl (by kernel_rfl) rfl s (fun _ _ _ => id) rfl fun a k => d_done (by kernel_rfl) ?_
           have k := k.keep [1, 7, 95] rfl
           refine (nm_then ?_)
           refine wp_cond_true (k.ev rfl) (wr (pN 1 k rfl fun a k => nn (wp_ret (rt_block (rt_then (rt_then (rt_block (rt_then ?_))))))))
           refine fS h k m rfl rfl
         have h := bif_f hb259 h
         refine rB k 85 rfl hb259 fun k => dt k 10 rfl (by kernel_rfl) rfl s (fun _ _ _ => id) (fun w s => r_fa fa40_3 k rfl rfl) fun a k => dt k 11 rfl (by kernel_rfl) rfl s (fun _ _ _ => id) (fun w s => r_ld1 t136 (r := []) (hb15.at ((hMd.step s).a 0 rfl) 6 1 rfl rfl rfl) k rfl rfl) fun a k => dp k 12 rfl (by kernel_rfl) rfl s (fun _ _ _ => id) rfl fun a k => oE h fun x260 hx261 h => dt k 13 rfl (by kernel_rfl) rfl s (fun _ _ _ => id) (fun w s => r_ixa hf11 hx258 k ts36 rfl rfl rfl) fun a k => dt k 14 rfl (by kernel_rfl) rfl s (fun _ _ _ => id) (fun w s => r_fa fa144_1 k rfl rfl) fun a k => dt k 15 rfl (by kernel_rfl) rfl s (fun _ _ _ => id) (fun w s => r_lde1 hf11 ((hMd.step s).a00 (Enc.rd_lt hf11)) hx258 1 t13 k rfl rfl rfl rfl) fun a k => dt k 16 rfl (by kernel_rfl) rfl s (fun _ _ _ => id) (fun w s => r_fa fa40_2 k rfl rfl) fun a k => ?_
         refine dt k 17 rfl (by kernel_rfl) rfl s (fun _ _ _ => id) (fun w s => r_ld1 t13 (r := []) (hb15.at ((hMd.step s).a 0 rfl) 5 1 rfl rfl rfl) k rfl rfl) fun a k => dp k 18 rfl (by kernel_rfl) rfl s (fun _ _ _ => id) rfl fun a k => dp k 19 rfl (by kernel_rfl) rfl s (fun _ _ _ => id) rfl fun a k => d_done (by kernel_rfl) ?_
         have k := k.keep [1, 7, 95] rfl
         refine (nm_then ?_)
         refine cI h k rfl (fun hb262 h => ?_) fun hb262 h => ?_
         · refine wr (pN 1 k rfl fun a k => nn (wp_ret (rt_block (rt_then (rt_then (rt_block (rt_then ?_)))))))
           refine fS h k m rfl rfl
         refine wp_skip (nm_block (nm_then ?_))
         exact ⟨k.keep [1, 7] rfl, m.sel [0] rfl (by decide), h⟩
       refine wp_exit (ex_then (ex_then (ex_same (nm_then ?_))))
       refine wr (sv k rfl (r_ldB ta40 m 0 hb15 0 k rfl rfl rfl rfl rfl rfl) fun a k => oE h fun x263 hx264 h => cE k m call88 rfl rfl rfl (c_spec_MasterOf fu _ (show rd _ _ [.int .i64 r1.fWay, .int .i64 r1.fPallet.fW, .int .i64 r1.fPallet.fD, .int .i64 r1.fPallet.fH, .int .i64 r1.fPallet.fGram, .int .i64 r1.fClasses, v5, v7, .int .i64 r1.fMaster, v9] (r1 : Request) from ⟨_, _, _, _, _, _, rfl, rfl, (Enc.rd_agr hf11 (m.a00 (Enc.rd_lt hf11))), (Enc.rd_agr hf12 (m.a00 (Enc.rd_lt hf12))), (Enc.rd_agr hf13 (m.a00 (Enc.rd_lt hf13)))⟩) hx264) fun w266 e a k m => pN 3 k rfl fun a k => s_alloc (cs := [.int .i64 0, .int .i64 0, .int .i64 0, .int .i64 0, .int .i64 0, .int .i64 0, .int .i64 0]) m k zeroValue92 rfl rfl rfl rfl rfl fun b267 w269 a k m e hb268 => ?_)
       refine s_stb (cs' := [.int .i64 x263.1.fId, .int .i64 x263.1.fW, .int .i64 x263.1.fH, .int .i64 x263.1.fD, .int .i64 x263.1.fTare, .int .i64 x263.1.fGram, .int .i64 x263.1.fCost]) sizeOf92 m 0 hb268 0 k rfl rfl rfl rfl rfl rfl rfl rfl rfl rfl rfl fun w270 a k e m hb271 => pN 1 k rfl fun a k => nn (wr (pN 2 k rfl fun a k => nn (wp_ret (fS h k m rfl rfl))))
     exact ⟨0, k.keep [1, 7] rfl, m.sel [0] rfl (by decide), h⟩
   exact ⟨0, k.keep [1, 5] rfl, m.sel [0] rfl (by decide), h⟩
 exact ⟨0, k.keep [1, 3] rfl, m.sel [0] rfl (by decide), h⟩

end Go.Proofs.YthjbcfefkdbgoaaGreat
