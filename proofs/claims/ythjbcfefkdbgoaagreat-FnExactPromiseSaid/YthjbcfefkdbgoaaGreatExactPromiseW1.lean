/- FnExactPromise: the walks of functions that the law reaches, part 1. Printed by gen.py. -/
import Derived.Test.YthjbcfefkdbgoaaGreatS9
import Derived.Test.YthjbcfefkdbgoaaGreatS12
import Derived.Test.YthjbcfefkdbgoaaGreatProg
import Derived.Test.YthjbcfefkdbgoaaGreatS13
import Derived.Test.YthjbcfefkdbgoaaGreatShelf
set_option maxRecDepth 20000
set_option linter.unusedSimpArgs false
set_option linter.unusedVariables false
namespace Go.Proofs.YthjbcfefkdbgoaaGreat
open Go Go.RowKit
open Enc (rd ow)
open Arg (argv)
open Ret (retv)

theorem mixo : Tryz.prog.follows .mixedOrders = true := by kernel_rfl
theorem fa28_3 : FA Tryz.prog 28 3 6 := fa_of (n := 0) Tryz.underlying28 rfl rfl Tryz.sizeOf24
theorem t124 : T1 Tryz.prog 24 := ⟨fun w => by simp [isAgg, run_underlying Tryz.underlying24], Tryz.sizeOf24⟩
theorem fa28_4 : FA Tryz.prog 28 4 7 := fa_of (n := 0) Tryz.underlying28 rfl rfl Tryz.sizeOf25
theorem t125 : T1 Tryz.prog 25 := ⟨fun w => by simp [isAgg, run_underlying Tryz.underlying25], Tryz.sizeOf25⟩
theorem fa28_6 : FA Tryz.prog 28 6 9 := fa_of (n := 0) Tryz.underlying28 rfl rfl Tryz.sizeOf26
theorem t126 : T1 Tryz.prog 26 := ⟨fun w => by simp [isAgg, run_underlying Tryz.underlying26], Tryz.sizeOf26⟩
theorem fa23_0 : FA Tryz.prog 23 0 0 := fa_of (n := 0) Tryz.underlying23 rfl rfl Tryz.sizeOf3
theorem t13 : T1 Tryz.prog 3 := ⟨fun w => by simp [isAgg, run_underlying Tryz.underlying3], Tryz.sizeOf3⟩
theorem fa35_0 : FA Tryz.prog 35 0 0 := fa_of (n := 0) Tryz.underlying35 rfl rfl Tryz.sizeOf3
theorem fa23_1 : FA Tryz.prog 23 1 1 := fa_of (n := 0) Tryz.underlying23 rfl rfl Tryz.sizeOf3
theorem fa35_1 : FA Tryz.prog 35 1 1 := fa_of (n := 0) Tryz.underlying35 rfl rfl Tryz.sizeOf3
theorem fa23_2 : FA Tryz.prog 23 2 2 := fa_of (n := 0) Tryz.underlying23 rfl rfl Tryz.sizeOf3
theorem fa35_2 : FA Tryz.prog 35 2 2 := fa_of (n := 0) Tryz.underlying35 rfl rfl Tryz.sizeOf3
theorem fa23_3 : FA Tryz.prog 23 3 3 := fa_of (n := 0) Tryz.underlying23 rfl rfl Tryz.sizeOf3
theorem fa35_3 : FA Tryz.prog 35 3 3 := fa_of (n := 0) Tryz.underlying35 rfl rfl Tryz.sizeOf3
theorem ta35 : TA Tryz.prog 35 4 := ⟨Tryz.isAgg35, Tryz.sizeOf35⟩
theorem fa146_0 : FA Tryz.prog 146 0 0 := fa_of (n := 0) Tryz.underlying146 rfl rfl Tryz.sizeOf3
theorem fa144_0 : FA Tryz.prog 144 0 0 := fa_of (n := 0) Tryz.underlying144 rfl rfl Tryz.sizeOf3
theorem fa146_1 : FA Tryz.prog 146 1 1 := fa_of (n := 0) Tryz.underlying146 rfl rfl Tryz.sizeOf3
theorem fa144_1 : FA Tryz.prog 144 1 1 := fa_of (n := 0) Tryz.underlying144 rfl rfl Tryz.sizeOf3
theorem ta144 : TA Tryz.prog 144 2 := ⟨Tryz.isAgg144, Tryz.sizeOf144⟩
theorem te36 : TE Tryz.prog 36 2 16 [.int .i64 0, .int .i64 0] := ⟨144, Tryz.t144, Tryz.underlying36, Tryz.type144, ⟨_, rfl, rfl⟩, rfl, rfl, rfl, by decide⟩
theorem ts24 : TS Tryz.prog 24 2 := ⟨146, Tryz.underlying24, Tryz.sizeOf146⟩
theorem ta146 : TA Tryz.prog 146 2 := ⟨Tryz.isAgg146, Tryz.sizeOf146⟩
theorem ts36 : TS Tryz.prog 36 2 := ⟨144, Tryz.underlying36, Tryz.sizeOf144⟩
theorem fa148_0 : FA Tryz.prog 148 0 0 := fa_of (n := 0) Tryz.underlying148 rfl rfl Tryz.sizeOf3
theorem fa92_0 : FA Tryz.prog 92 0 0 := fa_of (n := 0) Tryz.underlying92 rfl rfl Tryz.sizeOf3
theorem fa148_1 : FA Tryz.prog 148 1 1 := fa_of (n := 0) Tryz.underlying148 rfl rfl Tryz.sizeOf3
theorem fa92_1 : FA Tryz.prog 92 1 1 := fa_of (n := 0) Tryz.underlying92 rfl rfl Tryz.sizeOf3
theorem fa148_2 : FA Tryz.prog 148 2 2 := fa_of (n := 0) Tryz.underlying148 rfl rfl Tryz.sizeOf3
theorem fa92_2 : FA Tryz.prog 92 2 2 := fa_of (n := 0) Tryz.underlying92 rfl rfl Tryz.sizeOf3
theorem fa148_3 : FA Tryz.prog 148 3 3 := fa_of (n := 0) Tryz.underlying148 rfl rfl Tryz.sizeOf3
theorem fa92_3 : FA Tryz.prog 92 3 3 := fa_of (n := 0) Tryz.underlying92 rfl rfl Tryz.sizeOf3
theorem fa148_4 : FA Tryz.prog 148 4 4 := fa_of (n := 0) Tryz.underlying148 rfl rfl Tryz.sizeOf3
theorem fa92_4 : FA Tryz.prog 92 4 4 := fa_of (n := 0) Tryz.underlying92 rfl rfl Tryz.sizeOf3
theorem fa148_5 : FA Tryz.prog 148 5 5 := fa_of (n := 0) Tryz.underlying148 rfl rfl Tryz.sizeOf3
theorem fa92_5 : FA Tryz.prog 92 5 5 := fa_of (n := 0) Tryz.underlying92 rfl rfl Tryz.sizeOf3
theorem fa148_6 : FA Tryz.prog 148 6 6 := fa_of (n := 0) Tryz.underlying148 rfl rfl Tryz.sizeOf3
theorem fa92_6 : FA Tryz.prog 92 6 6 := fa_of (n := 0) Tryz.underlying92 rfl rfl Tryz.sizeOf3
theorem ta92 : TA Tryz.prog 92 7 := ⟨Tryz.isAgg92, Tryz.sizeOf92⟩
theorem te37 : TE Tryz.prog 37 7 56 [.int .i64 0, .int .i64 0, .int .i64 0, .int .i64 0, .int .i64 0, .int .i64 0, .int .i64 0] := ⟨92, Tryz.t92, Tryz.underlying37, Tryz.type92, ⟨_, rfl, rfl⟩, rfl, rfl, rfl, by decide⟩
theorem ts25 : TS Tryz.prog 25 7 := ⟨148, Tryz.underlying25, Tryz.sizeOf148⟩
theorem ta148 : TA Tryz.prog 148 7 := ⟨Tryz.isAgg148, Tryz.sizeOf148⟩
theorem ts37 : TS Tryz.prog 37 7 := ⟨92, Tryz.underlying37, Tryz.sizeOf92⟩
theorem fa150_0 : FA Tryz.prog 150 0 0 := fa_of (n := 0) Tryz.underlying150 rfl rfl Tryz.sizeOf3
theorem fa120_0 : FA Tryz.prog 120 0 0 := fa_of (n := 0) Tryz.underlying120 rfl rfl Tryz.sizeOf3
theorem fa150_1 : FA Tryz.prog 150 1 1 := fa_of (n := 0) Tryz.underlying150 rfl rfl Tryz.sizeOf3
theorem fa120_1 : FA Tryz.prog 120 1 1 := fa_of (n := 0) Tryz.underlying120 rfl rfl Tryz.sizeOf3
theorem fa150_2 : FA Tryz.prog 150 2 2 := fa_of (n := 0) Tryz.underlying150 rfl rfl Tryz.sizeOf3
theorem fa120_2 : FA Tryz.prog 120 2 2 := fa_of (n := 0) Tryz.underlying120 rfl rfl Tryz.sizeOf3
theorem fa150_3 : FA Tryz.prog 150 3 3 := fa_of (n := 0) Tryz.underlying150 rfl rfl Tryz.sizeOf3
theorem fa120_3 : FA Tryz.prog 120 3 3 := fa_of (n := 0) Tryz.underlying120 rfl rfl Tryz.sizeOf3
theorem fa150_4 : FA Tryz.prog 150 4 4 := fa_of (n := 0) Tryz.underlying150 rfl rfl Tryz.sizeOf3
theorem fa120_4 : FA Tryz.prog 120 4 4 := fa_of (n := 0) Tryz.underlying120 rfl rfl Tryz.sizeOf3
theorem fa150_5 : FA Tryz.prog 150 5 5 := fa_of (n := 0) Tryz.underlying150 rfl rfl Tryz.sizeOf3
theorem fa120_5 : FA Tryz.prog 120 5 5 := fa_of (n := 0) Tryz.underlying120 rfl rfl Tryz.sizeOf3
theorem fa150_6 : FA Tryz.prog 150 6 6 := fa_of (n := 0) Tryz.underlying150 rfl rfl Tryz.sizeOf3
theorem fa120_6 : FA Tryz.prog 120 6 6 := fa_of (n := 0) Tryz.underlying120 rfl rfl Tryz.sizeOf3
theorem ta120 : TA Tryz.prog 120 7 := ⟨Tryz.isAgg120, Tryz.sizeOf120⟩
theorem te38 : TE Tryz.prog 38 7 56 [.int .i64 0, .int .i64 0, .int .i64 0, .int .i64 0, .int .i64 0, .int .i64 0, .int .i64 0] := ⟨120, Tryz.t120, Tryz.underlying38, Tryz.type120, ⟨_, rfl, rfl⟩, rfl, rfl, rfl, by decide⟩
theorem ts26 : TS Tryz.prog 26 7 := ⟨150, Tryz.underlying26, Tryz.sizeOf150⟩
theorem ta150 : TA Tryz.prog 150 7 := ⟨Tryz.isAgg150, Tryz.sizeOf150⟩
theorem ts38 : TS Tryz.prog 38 7 := ⟨120, Tryz.underlying38, Tryz.sizeOf120⟩
theorem fa28_0 : FA Tryz.prog 28 0 0 := fa_of (n := 0) Tryz.underlying28 rfl rfl Tryz.sizeOf3
theorem fa40_0 : FA Tryz.prog 40 0 0 := fa_of (n := 0) Tryz.underlying40 rfl rfl Tryz.sizeOf3
theorem fa28_1 : FA Tryz.prog 28 1 1 := fa_of (n := 3) Tryz.underlying28 rfl rfl Tryz.sizeOf23
theorem ta23 : TA Tryz.prog 23 4 := ⟨Tryz.isAgg23, Tryz.sizeOf23⟩
theorem fa40_1 : FA Tryz.prog 40 1 1 := fa_of (n := 3) Tryz.underlying40 rfl rfl Tryz.sizeOf35
theorem fa28_2 : FA Tryz.prog 28 2 5 := fa_of (n := 0) Tryz.underlying28 rfl rfl Tryz.sizeOf3
theorem fa40_2 : FA Tryz.prog 40 2 5 := fa_of (n := 0) Tryz.underlying40 rfl rfl Tryz.sizeOf3
theorem fa40_3 : FA Tryz.prog 40 3 6 := fa_of (n := 0) Tryz.underlying40 rfl rfl Tryz.sizeOf36
theorem fa40_4 : FA Tryz.prog 40 4 7 := fa_of (n := 0) Tryz.underlying40 rfl rfl Tryz.sizeOf37
theorem fa28_5 : FA Tryz.prog 28 5 8 := fa_of (n := 0) Tryz.underlying28 rfl rfl Tryz.sizeOf3
theorem fa40_5 : FA Tryz.prog 40 5 8 := fa_of (n := 0) Tryz.underlying40 rfl rfl Tryz.sizeOf3
theorem fa40_6 : FA Tryz.prog 40 6 9 := fa_of (n := 0) Tryz.underlying40 rfl rfl Tryz.sizeOf38
theorem ta40 : TA Tryz.prog 40 10 := ⟨Tryz.isAgg40, Tryz.sizeOf40⟩
theorem t136 : T1 Tryz.prog 36 := ⟨fun w => by simp [isAgg, run_underlying Tryz.underlying36], Tryz.sizeOf36⟩
theorem t137 : T1 Tryz.prog 37 := ⟨fun w => by simp [isAgg, run_underlying Tryz.underlying37], Tryz.sizeOf37⟩
theorem t138 : T1 Tryz.prog 38 := ⟨fun w => by simp [isAgg, run_underlying Tryz.underlying38], Tryz.sizeOf38⟩
theorem bt92 : BT Tryz.prog 92 [.int .i64 0, .int .i64 0, .int .i64 0, .int .i64 0, .int .i64 0, .int .i64 0, .int .i64 0] #[(0, 1), (1, 1), (2, 1), (3, 1), (4, 1), (5, 1), (6, 1)] := ⟨Tryz.zeroValue92, _, Tryz.underlying92, fun w => by simp [Tryz.sizeOf3]⟩

def d_laws_szPairS (fu : Nat) (a1 : List Pair) (left5 : Int) : Option (Int) :=
  bif (decide ((w64 (left5 - ((a1.length : Int)))) < 0)) then some ((-1)) else some (w64 (left5 - ((a1.length : Int))))

def d_laws_szTypeS (fu : Nat) (a1 : List Typ) (left5 : Int) : Option (Int) :=
  bif (decide ((w64 (left5 - ((a1.length : Int)))) < 0)) then some ((-1)) else some (w64 (left5 - ((a1.length : Int))))

def d_laws_szItemS (fu : Nat) (a1 : List Item) (left5 : Int) : Option (Int) :=
  bif (decide ((w64 (left5 - ((a1.length : Int)))) < 0)) then some ((-1)) else some (w64 (left5 - ((a1.length : Int))))

def d_laws_szRequest (fu : Nat) (a1 : Request) (left5 : Int) : Option (Int) :=
  obind (d_laws_szPairS fu a1.fPairs left5) fun x18 => bif (decide (x18 < 0)) then some ((-1)) else obind (d_laws_szTypeS fu a1.fTypes x18) fun x23 => bif (decide (x23 < 0)) then some ((-1)) else obind (d_laws_szItemS fu a1.fItems x23) fun x28 => bif (decide (x28 < 0)) then some ((-1)) else some (x28)

def d_laws_toPallet (fu : Nat) (a1 : Pallet) : Option (Pallet) :=
  some (a1)

def d_laws_toPair (fu : Nat) (a1 : Pair) : Option (Pair) :=
  some (a1)

def d_laws_toPairS_L1_B (fu : Nat)  (a1 : List Pair) (k1 : List Pair → Int → Option ((List Pair))) (out42 : List Pair) (i47 : Int) : Option ((List Pair)) :=
  bif (decide (i47 < ((a1.length : Int)))) then obind (ix a1 i47) fun x50 => obind (d_laws_toPair fu x50) fun x52 => obind (ix out42 i47) fun x56 => k1 (setx out42 i47 x52) (w64 (i47 + 1)) else some (out42)
def d_laws_toPairS_L1 (fu : Nat)  (a1 : List Pair) : Nat → List Pair → Int → Option ((List Pair))
  | 0 => fun _ _ => none
  | n + 1 => d_laws_toPairS_L1_B fu a1 (d_laws_toPairS_L1 fu a1 n)
theorem d_laws_toPairS_L1_s (fu : Nat)  (a1 : List Pair) (n : Nat) : d_laws_toPairS_L1 fu a1 (n + 1) = d_laws_toPairS_L1_B fu a1 (d_laws_toPairS_L1 fu a1 n) := rfl

def d_laws_toPairS (fu : Nat) (a1 : List Pair) : Option ((List Pair)) :=
  obind (mk 16 (⟨(0 : Int), (0 : Int)⟩ : Pair) ((a1.length : Int))) fun x5 => d_laws_toPairS_L1 fu a1 fu x5 0

def d_laws_toType (fu : Nat) (a1 : Typ) : Option (Typ) :=
  some (a1)

def d_laws_toTypeS_L1_B (fu : Nat)  (a1 : List Typ) (k1 : List Typ → Int → Option ((List Typ))) (out42 : List Typ) (i47 : Int) : Option ((List Typ)) :=
  bif (decide (i47 < ((a1.length : Int)))) then obind (ix a1 i47) fun x50 => obind (d_laws_toType fu x50) fun x52 => obind (ix out42 i47) fun x56 => k1 (setx out42 i47 x52) (w64 (i47 + 1)) else some (out42)
def d_laws_toTypeS_L1 (fu : Nat)  (a1 : List Typ) : Nat → List Typ → Int → Option ((List Typ))
  | 0 => fun _ _ => none
  | n + 1 => d_laws_toTypeS_L1_B fu a1 (d_laws_toTypeS_L1 fu a1 n)
theorem d_laws_toTypeS_L1_s (fu : Nat)  (a1 : List Typ) (n : Nat) : d_laws_toTypeS_L1 fu a1 (n + 1) = d_laws_toTypeS_L1_B fu a1 (d_laws_toTypeS_L1 fu a1 n) := rfl

def d_laws_toTypeS (fu : Nat) (a1 : List Typ) : Option ((List Typ)) :=
  obind (mk 56 (⟨(0 : Int), (0 : Int), (0 : Int), (0 : Int), (0 : Int), (0 : Int), (0 : Int)⟩ : Typ) ((a1.length : Int))) fun x5 => d_laws_toTypeS_L1 fu a1 fu x5 0

def d_laws_toItem (fu : Nat) (a1 : Item) : Option (Item) :=
  some (a1)

def d_laws_toItemS_L1_B (fu : Nat)  (a1 : List Item) (k1 : List Item → Int → Option ((List Item))) (out42 : List Item) (i47 : Int) : Option ((List Item)) :=
  bif (decide (i47 < ((a1.length : Int)))) then obind (ix a1 i47) fun x50 => obind (d_laws_toItem fu x50) fun x52 => obind (ix out42 i47) fun x56 => k1 (setx out42 i47 x52) (w64 (i47 + 1)) else some (out42)
def d_laws_toItemS_L1 (fu : Nat)  (a1 : List Item) : Nat → List Item → Int → Option ((List Item))
  | 0 => fun _ _ => none
  | n + 1 => d_laws_toItemS_L1_B fu a1 (d_laws_toItemS_L1 fu a1 n)
theorem d_laws_toItemS_L1_s (fu : Nat)  (a1 : List Item) (n : Nat) : d_laws_toItemS_L1 fu a1 (n + 1) = d_laws_toItemS_L1_B fu a1 (d_laws_toItemS_L1 fu a1 n) := rfl

def d_laws_toItemS (fu : Nat) (a1 : List Item) : Option ((List Item)) :=
  obind (mk 56 (⟨(0 : Int), (0 : Int), (0 : Int), (0 : Int), (0 : Int), (0 : Int), (0 : Int)⟩ : Item) ((a1.length : Int))) fun x5 => d_laws_toItemS_L1 fu a1 fu x5 0

def d_laws_toRequest (fu : Nat) (a1 : Request) : Option (Request) :=
  obind (d_laws_toPallet fu a1.fPallet) fun x25 => obind (d_laws_toPairS fu a1.fPairs) fun x33 => obind (d_laws_toTypeS fu a1.fTypes) fun x44 => obind (d_laws_toItemS fu a1.fItems) fun x57 => some ((⟨a1.fWay, x25, a1.fClasses, x33, x44, a1.fMaster, x57⟩ : Request))

def d_spec_l1In (fu : Nat) (x1 : Int) (lo2 : Int) (hi3 : Int) : Option (Bool) :=
  bif (decide (x1 ≥ lo2)) then some (decide (x1 ≤ hi3)) else some (false)

def d_spec_l2Side (fu : Nat) (x1 : Int) : Option (Bool) :=
  obind (d_spec_l1In fu x1 1 2000) fun x2 => some (x2)

def d_spec_PalletOk (fu : Nat) (x1 : Pallet) : Option (Bool) :=
  obind (d_spec_l2Side fu x1.fW) fun x5 => bif x5 then obind (d_spec_l2Side fu x1.fD) fun x10 => bif x10 then obind (d_spec_l2Side fu x1.fH) fun x15 => bif x15 then obind (d_spec_l1In fu x1.fGram 1 100000) fun x20 => some (x20) else some (false) else some (false) else some (false)

def d_spec_l2Id (fu : Nat) (x1 : Int) : Option (Bool) :=
  obind (d_spec_l1In fu x1 0 999) fun x2 => some (x2)

def d_spec_TypeOk (fu : Nat) (x1 : Typ) : Option (Bool) :=
  obind (d_spec_l2Id fu x1.fId) fun x5 => bif x5 then obind (d_spec_l2Side fu x1.fW) fun x10 => bif x10 then obind (d_spec_l2Side fu x1.fH) fun x15 => bif x15 then obind (d_spec_l2Side fu x1.fD) fun x20 => bif x20 then obind (d_spec_l1In fu x1.fTare 0 100000) fun x25 => bif x25 then obind (d_spec_l1In fu x1.fGram 1 100000) fun x30 => bif x30 then obind (d_spec_l1In fu x1.fCost 0 100000) fun x35 => some (x35) else some (false) else some (false) else some (false) else some (false) else some (false) else some (false)

def d_spec_ItemOk (fu : Nat) (x1 : Item) : Option (Bool) :=
  obind (d_spec_l2Id fu x1.fId) fun x5 => bif x5 then obind (d_spec_l2Side fu x1.fW) fun x10 => bif x10 then obind (d_spec_l2Side fu x1.fH) fun x15 => bif x15 then obind (d_spec_l2Side fu x1.fD) fun x20 => bif x20 then obind (d_spec_l1In fu x1.fGram 1 100000) fun x25 => bif x25 then obind (d_spec_l1In fu x1.fClass 0 3) fun x30 => bif x30 then obind (d_spec_l1In fu x1.fCount 1 6) fun x35 => some (x35) else some (false) else some (false) else some (false) else some (false) else some (false) else some (false)

def d_spec_BoundsOk_J1 (fu : Nat) (k4 : Int → Option (Bool)) (i109 : Int)  : Option (Bool) :=
  k4 (w64 (i109 + 1))

def d_spec_BoundsOk_L1_B (fu : Nat)  (r1 : Request) (k7 : Int → Int → Option (Bool)) (units196 : Int) (i197 : Int) : Option (Bool) :=
  bif (decide (i197 < ((r1.fItems.length : Int)))) then obind (ix r1.fItems i197) fun x200 => obind (d_spec_ItemOk fu x200) fun x202 => bif (!x202) then some (false) else obind (ix r1.fItems i197) fun x207 => k7 (w64 (units196 + x200.fCount)) (w64 (i197 + 1)) else some (decide (units196 ≤ 12))
def d_spec_BoundsOk_L1 (fu : Nat)  (r1 : Request) : Nat → Int → Int → Option (Bool)
  | 0 => fun _ _ => none
  | n + 1 => d_spec_BoundsOk_L1_B fu r1 (d_spec_BoundsOk_L1 fu r1 n)
theorem d_spec_BoundsOk_L1_s (fu : Nat)  (r1 : Request) (n : Nat) : d_spec_BoundsOk_L1 fu r1 (n + 1) = d_spec_BoundsOk_L1_B fu r1 (d_spec_BoundsOk_L1 fu r1 n) := rfl

def d_spec_BoundsOk_L2_B (fu : Nat)  (r1 : Request) (k6 : Int → Option (Bool)) (i161 : Int) : Option (Bool) :=
  bif (decide (i161 < ((r1.fTypes.length : Int)))) then obind (ix r1.fTypes i161) fun x164 => obind (d_spec_TypeOk fu x164) fun x166 => bif (!x166) then some (false) else k6 (w64 (i161 + 1)) else d_spec_BoundsOk_L1 fu r1 fu 0 0
def d_spec_BoundsOk_L2 (fu : Nat)  (r1 : Request) : Nat → Int → Option (Bool)
  | 0 => fun _ => none
  | n + 1 => d_spec_BoundsOk_L2_B fu r1 (d_spec_BoundsOk_L2 fu r1 n)
theorem d_spec_BoundsOk_L2_s (fu : Nat)  (r1 : Request) (n : Nat) : d_spec_BoundsOk_L2 fu r1 (n + 1) = d_spec_BoundsOk_L2_B fu r1 (d_spec_BoundsOk_L2 fu r1 n) := rfl

def d_spec_BoundsOk_L3_B (fu : Nat)  (r1 : Request) (k4 : Int → Option (Bool)) (i109 : Int) : Option (Bool) :=
  bif (decide (i109 < ((r1.fPairs.length : Int)))) then obind (ix r1.fPairs i109) fun x127 => obind (d_spec_l1In fu x127.fA 0 3) fun x129 => bif (!x129) then some (false) else obind (ix r1.fPairs i109) fun x134 => obind (d_spec_l1In fu x127.fB 0 3) fun x136 => bif (!x136) then some (false) else d_spec_BoundsOk_J1 fu k4 i109 else d_spec_BoundsOk_L2 fu r1 fu 0
def d_spec_BoundsOk_L3 (fu : Nat)  (r1 : Request) : Nat → Int → Option (Bool)
  | 0 => fun _ => none
  | n + 1 => d_spec_BoundsOk_L3_B fu r1 (d_spec_BoundsOk_L3 fu r1 n)
theorem d_spec_BoundsOk_L3_s (fu : Nat)  (r1 : Request) (n : Nat) : d_spec_BoundsOk_L3 fu r1 (n + 1) = d_spec_BoundsOk_L3_B fu r1 (d_spec_BoundsOk_L3 fu r1 n) := rfl

def d_spec_BoundsOk_J2 (fu : Nat) (r1 : Request)  : Option (Bool) :=
  d_spec_BoundsOk_L3 fu r1 fu 0

def d_spec_BoundsOk (fu : Nat) (r1 : Request) : Option (Bool) :=
  obind (d_spec_l1In fu r1.fWay 0 1) fun x209 => bif (!x209) then some (false) else obind (d_spec_PalletOk fu r1.fPallet) fun x214 => bif (!x214) then some (false) else obind (d_spec_l1In fu r1.fClasses 1 4) fun x219 => bif (!x219) then some (false) else bif (decide (((r1.fPairs.length : Int)) > 16)) then some (false) else obind (d_spec_l1In fu ((r1.fTypes.length : Int)) 1 5) fun x225 => bif (!x225) then some (false) else obind (d_spec_l2Id fu r1.fMaster) fun x230 => bif (!x230) then some (false) else bif (decide (((r1.fItems.length : Int)) > 8)) then some (false) else d_spec_BoundsOk_J2 fu r1

def d_spec_MasterOf_L1_B (fu : Nat)  (r1 : Request) (k1 : Int → Option (Typ × Bool)) (i42 : Int) : Option (Typ × Bool) :=
  bif (decide (i42 < ((r1.fTypes.length : Int)))) then obind (ix r1.fTypes i42) fun x46 => bif (x46.fId == r1.fMaster) then obind (ix r1.fTypes i42) fun x49 => some (x46, true) else k1 (w64 (i42 + 1)) else some ((⟨0, 0, 0, 0, 0, 0, 0⟩ : Typ), false)
def d_spec_MasterOf_L1 (fu : Nat)  (r1 : Request) : Nat → Int → Option (Typ × Bool)
  | 0 => fun _ => none
  | n + 1 => d_spec_MasterOf_L1_B fu r1 (d_spec_MasterOf_L1 fu r1 n)
theorem d_spec_MasterOf_L1_s (fu : Nat)  (r1 : Request) (n : Nat) : d_spec_MasterOf_L1 fu r1 (n + 1) = d_spec_MasterOf_L1_B fu r1 (d_spec_MasterOf_L1 fu r1 n) := rfl

def d_spec_MasterOf (fu : Nat) (r1 : Request) : Option (Typ × Bool) :=
  d_spec_MasterOf_L1 fu r1 fu 0

theorem c_laws_szPairS (fu : Nat) {w0 : World} (a1 : List Pair) (left5 : Int) {v2 : Value} {F3 : List Nat} (hp4 : rd w0 F3 [v2] a1) {r : Int}
    (h : d_laws_szPairS fu a1 left5 = some r) :
    Calls Tryz.prog 63 #[v2, .int .i64 (left5)] w0 fun e w => e = .returned (.int .i64 (r)) ∧ Ext [] w0 w := by
  refine enter (vs := [_, _]) Tryz.func63 rfl Tryz.ntmps63 rfl fun a hK => ?_
  have hM := St.start w0
  unfold d_laws_szPairS at h
  refine wp_seq ?_
  refine wp_region_lit ?_
  refine s1 hK rfl rfl rfl rfl fun a hK => ?_
  refine wpList_nil (nm_then ?_)
  refine wp_seq ?_
  refine wp_region_lit ?_
  iterate 2 (refine s1 hK rfl rfl rfl rfl fun a hK => ?_)
  refine s_val hK rfl rfl rfl (r_len (α := Pair) hp4 hK Tryz.underlying24 rfl rfl) fun a hK => ?_
  iterate 2 (refine s1 hK rfl rfl rfl rfl fun a hK => ?_)
  refine wpList_nil (nm_then ?_)
  refine wp_seq ?_
  refine wp_seq ?_
  refine wp_region_lit ?_
  iterate 2 (refine s1 hK rfl rfl rfl rfl fun a hK => ?_)
  refine wpList_nil (nm_then ?_)
  refine c_cond (b := decide ((w64 (left5 - ((a1.length : Int)))) < 0)) hK rfl (fun hb6 => ?_) (fun hb6 => ?_)
  · have h := bif_t hb6 h
    refine wp_seq ?_
    refine wp_region_lit ?_
    refine s1 hK rfl rfl rfl rfl fun a hK => ?_
    refine wpList_nil (nm_then ?_)
    refine wp_ret (rt_then ?_)
    have h := Option.some.inj h
    subst h
    exact finR1 hK rfl (RV.tmp hK rfl) ⟨rfl, hM.ext⟩
  · have h := bif_f hb6 h
    refine wp_skip (nm_then ?_)
    refine wp_seq ?_
    refine wp_region_lit ?_
    iterate 2 (refine s1 hK rfl rfl rfl rfl fun a hK => ?_)
    refine wpList_nil (nm_then ?_)
    refine wp_ret ?_
    have h := Option.some.inj h
    subst h
    exact finR1 hK rfl (RV.tmp hK rfl) ⟨rfl, hM.ext⟩

theorem c_laws_szTypeS (fu : Nat) {w0 : World} (a1 : List Typ) (left5 : Int) {v2 : Value} {F3 : List Nat} (hp4 : rd w0 F3 [v2] a1) {r : Int}
    (h : d_laws_szTypeS fu a1 left5 = some r) :
    Calls Tryz.prog 64 #[v2, .int .i64 (left5)] w0 fun e w => e = .returned (.int .i64 (r)) ∧ Ext [] w0 w := by
  refine enter (vs := [_, _]) Tryz.func64 rfl Tryz.ntmps64 rfl fun a hK => ?_
  have hM := St.start w0
  unfold d_laws_szTypeS at h
  refine wp_seq ?_
  refine wp_region_lit ?_
  refine s1 hK rfl rfl rfl rfl fun a hK => ?_
  refine wpList_nil (nm_then ?_)
  refine wp_seq ?_
  refine wp_region_lit ?_
  iterate 2 (refine s1 hK rfl rfl rfl rfl fun a hK => ?_)
  refine s_val hK rfl rfl rfl (r_len (α := Typ) hp4 hK Tryz.underlying25 rfl rfl) fun a hK => ?_
  iterate 2 (refine s1 hK rfl rfl rfl rfl fun a hK => ?_)
  refine wpList_nil (nm_then ?_)
  refine wp_seq ?_
  refine wp_seq ?_
  refine wp_region_lit ?_
  iterate 2 (refine s1 hK rfl rfl rfl rfl fun a hK => ?_)
  refine wpList_nil (nm_then ?_)
  refine c_cond (b := decide ((w64 (left5 - ((a1.length : Int)))) < 0)) hK rfl (fun hb6 => ?_) (fun hb6 => ?_)
  · have h := bif_t hb6 h
    refine wp_seq ?_
    refine wp_region_lit ?_
    refine s1 hK rfl rfl rfl rfl fun a hK => ?_
    refine wpList_nil (nm_then ?_)
    refine wp_ret (rt_then ?_)
    have h := Option.some.inj h
    subst h
    exact finR1 hK rfl (RV.tmp hK rfl) ⟨rfl, hM.ext⟩
  · have h := bif_f hb6 h
    refine wp_skip (nm_then ?_)
    refine wp_seq ?_
    refine wp_region_lit ?_
    iterate 2 (refine s1 hK rfl rfl rfl rfl fun a hK => ?_)
    refine wpList_nil (nm_then ?_)
    refine wp_ret ?_
    have h := Option.some.inj h
    subst h
    exact finR1 hK rfl (RV.tmp hK rfl) ⟨rfl, hM.ext⟩

theorem c_laws_szItemS (fu : Nat) {w0 : World} (a1 : List Item) (left5 : Int) {v2 : Value} {F3 : List Nat} (hp4 : rd w0 F3 [v2] a1) {r : Int}
    (h : d_laws_szItemS fu a1 left5 = some r) :
    Calls Tryz.prog 65 #[v2, .int .i64 (left5)] w0 fun e w => e = .returned (.int .i64 (r)) ∧ Ext [] w0 w := by
  refine enter (vs := [_, _]) Tryz.func65 rfl Tryz.ntmps65 rfl fun a hK => ?_
  have hM := St.start w0
  unfold d_laws_szItemS at h
  refine wp_seq ?_
  refine wp_region_lit ?_
  refine s1 hK rfl rfl rfl rfl fun a hK => ?_
  refine wpList_nil (nm_then ?_)
  refine wp_seq ?_
  refine wp_region_lit ?_
  iterate 2 (refine s1 hK rfl rfl rfl rfl fun a hK => ?_)
  refine s_val hK rfl rfl rfl (r_len (α := Item) hp4 hK Tryz.underlying26 rfl rfl) fun a hK => ?_
  iterate 2 (refine s1 hK rfl rfl rfl rfl fun a hK => ?_)
  refine wpList_nil (nm_then ?_)
  refine wp_seq ?_
  refine wp_seq ?_
  refine wp_region_lit ?_
  iterate 2 (refine s1 hK rfl rfl rfl rfl fun a hK => ?_)
  refine wpList_nil (nm_then ?_)
  refine c_cond (b := decide ((w64 (left5 - ((a1.length : Int)))) < 0)) hK rfl (fun hb6 => ?_) (fun hb6 => ?_)
  · have h := bif_t hb6 h
    refine wp_seq ?_
    refine wp_region_lit ?_
    refine s1 hK rfl rfl rfl rfl fun a hK => ?_
    refine wpList_nil (nm_then ?_)
    refine wp_ret (rt_then ?_)
    have h := Option.some.inj h
    subst h
    exact finR1 hK rfl (RV.tmp hK rfl) ⟨rfl, hM.ext⟩
  · have h := bif_f hb6 h
    refine wp_skip (nm_then ?_)
    refine wp_seq ?_
    refine wp_region_lit ?_
    iterate 2 (refine s1 hK rfl rfl rfl rfl fun a hK => ?_)
    refine wpList_nil (nm_then ?_)
    refine wp_ret ?_
    have h := Option.some.inj h
    subst h
    exact finR1 hK rfl (RV.tmp hK rfl) ⟨rfl, hM.ext⟩

theorem c_laws_szRequest (fu : Nat) {w0 : World} (a1 : Request) (left5 : Int) {cs2 : List Value} {F3 : List Nat} (hp4 : rd w0 F3 cs2 a1) {r : Int}
    (h : d_laws_szRequest fu a1 left5 = some r) :
    Calls Tryz.prog 15 #[.agg cs2.toArray, .int .i64 (left5)] w0 fun e w => e = .returned (.int .i64 (r)) ∧ Ext [] w0 w := by
  refine enter (vs := [_, _]) Tryz.func15 rfl Tryz.ntmps15 rfl fun a hK => ?_
  have hM := St.start w0
  obtain ⟨v6, F7, v8, F9, v10, F11, rfl, rfl, hf12, hf13, hf14⟩ := hp4
  unfold d_laws_szRequest at h
  refine wp_seq ?_
  refine wp_region_lit ?_
  refine s_box (cs := [.int .i64 (a1.fWay), .int .i64 (a1.fPallet.fW), .int .i64 (a1.fPallet.fD), .int .i64 (a1.fPallet.fH), .int .i64 (a1.fPallet.fGram), .int .i64 (a1.fClasses), v6, v8, .int .i64 (a1.fMaster), v10]) hM hK rfl rfl rfl rfl rfl rfl fun b15 w17 a hK hM hE hb16 => ?_
  refine s1 hK rfl rfl rfl rfl fun a hK => ?_
  refine wpList_nil (nm_then ?_)
  refine wp_seq ?_
  refine wp_region_lit ?_
  refine s_val hK rfl rfl rfl (r_fa fa28_3 hK rfl rfl) fun a hK => ?_
  refine s_val hK rfl rfl rfl (r_ldb t124 hM 0 hb16 6 hK rfl rfl rfl rfl rfl) fun a hK => ?_
  refine s1 hK rfl rfl rfl rfl fun a hK => ?_
  obtain ⟨x18, hx19, h⟩ := obind_some h
  refine s_call hK Tryz.call63 rfl rfl rfl rfl rfl (c_laws_szPairS fu _ _ (Enc.rd_agr hf12 (hM.a00 (Enc.rd_lt hf12))) hx19) fun e20 w21 hR => ?_
  obtain ⟨rfl, hE⟩ := hR
  refine ⟨_, rfl, fun a hK => ?_⟩
  have hM := hM.step hE
  refine s1 hK rfl rfl rfl rfl fun a hK => ?_
  refine wpList_nil (nm_then ?_)
  refine wp_seq ?_
  refine wp_seq ?_
  refine wp_region_lit ?_
  iterate 2 (refine s1 hK rfl rfl rfl rfl fun a hK => ?_)
  refine wpList_nil (nm_then ?_)
  refine c_cond (b := decide (x18 < 0)) hK rfl (fun hb22 => ?_) (fun hb22 => ?_)
  · have h := bif_t hb22 h
    refine wp_seq ?_
    refine wp_region_lit ?_
    refine s1 hK rfl rfl rfl rfl fun a hK => ?_
    refine wpList_nil (nm_then ?_)
    refine wp_ret (rt_then ?_)
    have h := Option.some.inj h
    subst h
    exact finR1 hK rfl (RV.tmp hK rfl) ⟨rfl, hM.ext⟩
  · have h := bif_f hb22 h
    refine wp_skip (nm_then ?_)
    refine wp_seq ?_
    refine wp_region_lit ?_
    refine s_val hK rfl rfl rfl (r_fa fa28_4 hK rfl rfl) fun a hK => ?_
    refine s_val hK rfl rfl rfl (r_ldb t125 hM 0 hb16 7 hK rfl rfl rfl rfl rfl) fun a hK => ?_
    refine s1 hK rfl rfl rfl rfl fun a hK => ?_
    obtain ⟨x23, hx24, h⟩ := obind_some h
    refine s_call hK Tryz.call64 rfl rfl rfl rfl rfl (c_laws_szTypeS fu _ _ (Enc.rd_agr hf13 (hM.a00 (Enc.rd_lt hf13))) hx24) fun e25 w26 hR => ?_
    obtain ⟨rfl, hE⟩ := hR
    refine ⟨_, rfl, fun a hK => ?_⟩
    have hM := hM.step hE
    refine s1 hK rfl rfl rfl rfl fun a hK => ?_
    refine wpList_nil (nm_then ?_)
    refine wp_seq ?_
    refine wp_seq ?_
    refine wp_region_lit ?_
    iterate 2 (refine s1 hK rfl rfl rfl rfl fun a hK => ?_)
    refine wpList_nil (nm_then ?_)
    refine c_cond (b := decide (x23 < 0)) hK rfl (fun hb27 => ?_) (fun hb27 => ?_)
    · have h := bif_t hb27 h
      refine wp_seq ?_
      refine wp_region_lit ?_
      refine s1 hK rfl rfl rfl rfl fun a hK => ?_
      refine wpList_nil (nm_then ?_)
      refine wp_ret (rt_then ?_)
      have h := Option.some.inj h
      subst h
      exact finR1 hK rfl (RV.tmp hK rfl) ⟨rfl, hM.ext⟩
    · have h := bif_f hb27 h
      refine wp_skip (nm_then ?_)
      refine wp_seq ?_
      refine wp_region_lit ?_
      refine s_val hK rfl rfl rfl (r_fa fa28_6 hK rfl rfl) fun a hK => ?_
      refine s_val hK rfl rfl rfl (r_ldb t126 hM 0 hb16 9 hK rfl rfl rfl rfl rfl) fun a hK => ?_
      refine s1 hK rfl rfl rfl rfl fun a hK => ?_
      obtain ⟨x28, hx29, h⟩ := obind_some h
      refine s_call hK Tryz.call65 rfl rfl rfl rfl rfl (c_laws_szItemS fu _ _ (Enc.rd_agr hf14 (hM.a00 (Enc.rd_lt hf14))) hx29) fun e30 w31 hR => ?_
      obtain ⟨rfl, hE⟩ := hR
      refine ⟨_, rfl, fun a hK => ?_⟩
      have hM := hM.step hE
      refine s1 hK rfl rfl rfl rfl fun a hK => ?_
      refine wpList_nil (nm_then ?_)
      refine wp_seq ?_
      refine wp_seq ?_
      refine wp_region_lit ?_
      iterate 2 (refine s1 hK rfl rfl rfl rfl fun a hK => ?_)
      refine wpList_nil (nm_then ?_)
      refine c_cond (b := decide (x28 < 0)) hK rfl (fun hb32 => ?_) (fun hb32 => ?_)
      · have h := bif_t hb32 h
        refine wp_seq ?_
        refine wp_region_lit ?_
        refine s1 hK rfl rfl rfl rfl fun a hK => ?_
        refine wpList_nil (nm_then ?_)
        refine wp_ret (rt_then ?_)
        have h := Option.some.inj h
        subst h
        exact finR1 hK rfl (RV.tmp hK rfl) ⟨rfl, hM.ext⟩
      · have h := bif_f hb32 h
        refine wp_skip (nm_then ?_)
        refine wp_seq ?_
        refine wp_region_lit ?_
        iterate 2 (refine s1 hK rfl rfl rfl rfl fun a hK => ?_)
        have hK := hK.keep [4] rfl
        refine wpList_nil (nm_then ?_)
        refine wp_ret ?_
        have h := Option.some.inj h
        subst h
        exact finR1 hK rfl (RV.tmp hK rfl) ⟨rfl, hM.ext⟩

theorem c_laws_toPallet (fu : Nat) {w0 : World} (a1 : Pallet)  {r : Pallet}
    (h : d_laws_toPallet fu a1 = some r) :
    Calls Tryz.prog 71 #[.agg (Flat.e (a1)).toArray] w0 fun e w => e = .returned (.agg (Flat.e r).toArray) ∧ Ext [] w0 w := by
  refine enter (vs := [_]) Tryz.func71 rfl Tryz.ntmps71 rfl fun a hK => ?_
  have hM := St.start w0
  unfold d_laws_toPallet at h
  refine wp_seq ?_
  refine wp_region_lit ?_
  refine s_box (cs := [.int .i64 (a1.fW), .int .i64 (a1.fD), .int .i64 (a1.fH), .int .i64 (a1.fGram)]) hM hK rfl rfl rfl rfl rfl rfl fun b2 w4 a hK hM hE hb3 => ?_
  refine s_alloc (cs := [.int .i64 (0), .int .i64 (0), .int .i64 (0), .int .i64 (0)]) hM hK Tryz.zeroValue35 rfl rfl rfl rfl rfl fun b5 w7 a hK hM hE hb6 => ?_
  refine wpList_nil (nm_then ?_)
  refine wp_seq ?_
  refine wp_region_lit ?_
  refine s_alloc (cs := [.int .i64 (0), .int .i64 (0), .int .i64 (0), .int .i64 (0)]) hM hK Tryz.zeroValue35 rfl rfl rfl rfl rfl fun b8 w10 a hK hM hE hb9 => ?_
  refine wpList_nil (nm_then ?_)
  refine wp_seq ?_
  refine wp_region_lit ?_
  refine s_val hK rfl rfl rfl (r_fa fa23_0 hK rfl rfl) fun a hK => ?_
  refine s_val hK rfl rfl rfl (r_ldb t13 hM 2 hb3 0 hK rfl rfl rfl rfl rfl) fun a hK => ?_
  refine s_val hK rfl rfl rfl (r_fa fa35_0 hK rfl rfl) fun a hK => ?_
  refine s_stb (cs' := [.int .i64 (a1.fW), .int .i64 (0), .int .i64 (0), .int .i64 (0)]) Tryz.sizeOf3 hM 0 hb9 0 hK rfl rfl rfl rfl rfl rfl rfl rfl rfl rfl rfl fun w11 a hK hE hM hb12 => ?_
  refine wpList_nil (nm_then ?_)
  refine wp_seq ?_
  refine wp_region_lit ?_
  refine s_val hK rfl rfl rfl (r_fa fa23_1 hK rfl rfl) fun a hK => ?_
  refine s_val hK rfl rfl rfl (r_ldb t13 hM 2 hb3 1 hK rfl rfl rfl rfl rfl) fun a hK => ?_
  refine s_val hK rfl rfl rfl (r_fa fa35_1 hK rfl rfl) fun a hK => ?_
  refine s_stb (cs' := [.int .i64 (a1.fW), .int .i64 (a1.fD), .int .i64 (0), .int .i64 (0)]) Tryz.sizeOf3 hM 0 hb12 1 hK rfl rfl rfl rfl rfl rfl rfl rfl rfl rfl rfl fun w13 a hK hE hM hb14 => ?_
  refine wpList_nil (nm_then ?_)
  refine wp_seq ?_
  refine wp_region_lit ?_
  refine s_val hK rfl rfl rfl (r_fa fa23_2 hK rfl rfl) fun a hK => ?_
  refine s_val hK rfl rfl rfl (r_ldb t13 hM 2 hb3 2 hK rfl rfl rfl rfl rfl) fun a hK => ?_
  refine s_val hK rfl rfl rfl (r_fa fa35_2 hK rfl rfl) fun a hK => ?_
  refine s_stb (cs' := [.int .i64 (a1.fW), .int .i64 (a1.fD), .int .i64 (a1.fH), .int .i64 (0)]) Tryz.sizeOf3 hM 0 hb14 2 hK rfl rfl rfl rfl rfl rfl rfl rfl rfl rfl rfl fun w15 a hK hE hM hb16 => ?_
  refine wpList_nil (nm_then ?_)
  refine wp_seq ?_
  refine wp_region_lit ?_
  refine s_val hK rfl rfl rfl (r_fa fa23_3 hK rfl rfl) fun a hK => ?_
  refine s_val hK rfl rfl rfl (r_ldb t13 hM 2 hb3 3 hK rfl rfl rfl rfl rfl) fun a hK => ?_
  refine s_val hK rfl rfl rfl (r_fa fa35_3 hK rfl rfl) fun a hK => ?_
  refine s_stb (cs' := [.int .i64 (a1.fW), .int .i64 (a1.fD), .int .i64 (a1.fH), .int .i64 (a1.fGram)]) Tryz.sizeOf3 hM 0 hb16 3 hK rfl rfl rfl rfl rfl rfl rfl rfl rfl rfl rfl fun w17 a hK hE hM hb18 => ?_
  refine wpList_nil (nm_then ?_)
  refine wp_seq ?_
  refine wp_region_lit ?_
  refine s_val hK rfl rfl rfl (r_ldB ta35 hM 0 hb18 0 hK rfl rfl rfl rfl rfl rfl) fun a hK => ?_
  refine s_stb (cs' := [.int .i64 (a1.fW), .int .i64 (a1.fD), .int .i64 (a1.fH), .int .i64 (a1.fGram)]) Tryz.sizeOf35 hM 1 hb6 0 hK rfl rfl rfl rfl rfl rfl rfl rfl rfl rfl rfl fun w19 a hK hE hM hb20 => ?_
  refine wpList_nil (nm_then ?_)
  refine wp_ret ?_
  have h := Option.some.inj h
  subst h
  exact finR1 hK rfl (RV.cA hK rfl ta35 (hb20.at (hM.a 1 rfl) 0 4 rfl rfl rfl) rfl) ⟨rfl, hM.ext⟩

theorem c_laws_toPair (fu : Nat) {w0 : World} (a1 : Pair)  {r : Pair}
    (h : d_laws_toPair fu a1 = some r) :
    Calls Tryz.prog 137 #[.agg (Flat.e (a1)).toArray] w0 fun e w => e = .returned (.agg (Flat.e r).toArray) ∧ Ext [] w0 w := by
  refine enter (vs := [_]) Tryz.func137 rfl Tryz.ntmps137 rfl fun a hK => ?_
  have hM := St.start w0
  unfold d_laws_toPair at h
  refine wp_seq ?_
  refine wp_region_lit ?_
  refine s_box (cs := [.int .i64 (a1.fA), .int .i64 (a1.fB)]) hM hK rfl rfl rfl rfl rfl rfl fun b2 w4 a hK hM hE hb3 => ?_
  refine s_alloc (cs := [.int .i64 (0), .int .i64 (0)]) hM hK Tryz.zeroValue144 rfl rfl rfl rfl rfl fun b5 w7 a hK hM hE hb6 => ?_
  refine wpList_nil (nm_then ?_)
  refine wp_seq ?_
  refine wp_region_lit ?_
  refine s_alloc (cs := [.int .i64 (0), .int .i64 (0)]) hM hK Tryz.zeroValue144 rfl rfl rfl rfl rfl fun b8 w10 a hK hM hE hb9 => ?_
  refine wpList_nil (nm_then ?_)
  refine wp_seq ?_
  refine wp_region_lit ?_
  refine s_val hK rfl rfl rfl (r_fa fa146_0 hK rfl rfl) fun a hK => ?_
  refine s_val hK rfl rfl rfl (r_ldb t13 hM 2 hb3 0 hK rfl rfl rfl rfl rfl) fun a hK => ?_
  refine s_val hK rfl rfl rfl (r_fa fa144_0 hK rfl rfl) fun a hK => ?_
  refine s_stb (cs' := [.int .i64 (a1.fA), .int .i64 (0)]) Tryz.sizeOf3 hM 0 hb9 0 hK rfl rfl rfl rfl rfl rfl rfl rfl rfl rfl rfl fun w11 a hK hE hM hb12 => ?_
  refine wpList_nil (nm_then ?_)
  refine wp_seq ?_
  refine wp_region_lit ?_
  refine s_val hK rfl rfl rfl (r_fa fa146_1 hK rfl rfl) fun a hK => ?_
  refine s_val hK rfl rfl rfl (r_ldb t13 hM 2 hb3 1 hK rfl rfl rfl rfl rfl) fun a hK => ?_
  refine s_val hK rfl rfl rfl (r_fa fa144_1 hK rfl rfl) fun a hK => ?_
  refine s_stb (cs' := [.int .i64 (a1.fA), .int .i64 (a1.fB)]) Tryz.sizeOf3 hM 0 hb12 1 hK rfl rfl rfl rfl rfl rfl rfl rfl rfl rfl rfl fun w13 a hK hE hM hb14 => ?_
  refine wpList_nil (nm_then ?_)
  refine wp_seq ?_
  refine wp_region_lit ?_
  refine s_val hK rfl rfl rfl (r_ldB ta144 hM 0 hb14 0 hK rfl rfl rfl rfl rfl rfl) fun a hK => ?_
  refine s_stb (cs' := [.int .i64 (a1.fA), .int .i64 (a1.fB)]) Tryz.sizeOf144 hM 1 hb6 0 hK rfl rfl rfl rfl rfl rfl rfl rfl rfl rfl rfl fun w15 a hK hE hM hb16 => ?_
  refine wpList_nil (nm_then ?_)
  refine wp_ret ?_
  have h := Option.some.inj h
  subst h
  exact finR1 hK rfl (RV.cA hK rfl ta144 (hb16.at (hM.a 1 rfl) 0 2 rfl rfl rfl) rfl) ⟨rfl, hM.ext⟩

theorem c_laws_toPairS (fu : Nat) {w0 : World} (a1 : List Pair) {v2 : Value} {F3 : List Nat} (hp4 : rd w0 F3 [v2] a1) {r : (List Pair)}
    (h : d_laws_toPairS fu a1 = some r) :
    Calls Tryz.prog 72 #[v2] w0 fun e w => ∃ (v0 : Value) (G0 : List Nat), e = .returned (v0) ∧ Ext [] w0 w ∧ ow w G0 [v0] r ∧ (∀ b ∈ G0, w0.heap.size ≤ b) := by
  refine enter (vs := [_]) Tryz.func72 rfl Tryz.ntmps72 rfl fun a hK => ?_
  have hM := St.start w0
  unfold d_laws_toPairS at h
  refine wp_seq ?_
  refine wp_region_lit ?_
  refine s1 hK rfl rfl rfl rfl fun a hK => ?_
  refine wpList_nil (nm_then ?_)
  refine wp_seq ?_
  refine wp_region_lit ?_
  refine s1 hK rfl rfl rfl rfl fun a hK => ?_
  refine s_val hK rfl rfl rfl (r_len (α := Pair) hp4 hK Tryz.underlying24 rfl rfl) fun a hK => ?_
  obtain ⟨x5, hx6, h⟩ := obind_some h
  refine s_mk hx6 te36 rfl rfl hM hK rfl rfl rfl rfl rfl rfl fun g7 w8 a v10 hK hM hE hf9 => ?_
  refine s1 hK rfl rfl rfl rfl fun a hK => ?_
  refine wpList_nil (nm_then ?_)
  refine wp_seq ?_
  refine wp_seq ?_
  refine wp_region_lit ?_
  refine s1 hK rfl rfl rfl rfl fun a hK => ?_
  refine wpList_nil (nm_then ?_)
  refine wp_block ?_
  refine c_loop (fun n a w => ∃ (out42 : List Pair) (v43 : Value) (F44 : List Nat) (u45 : World) (i47 : Int), K 23 [(0, v2), (3, v43), (4, .int .i64 (i47))] a ∧ St [] w0 w [(F44, u45)] ∧ ow u45 F44 [v43] out42 ∧ d_laws_toPairS_L1 fu a1 n out42 i47 = some r) ?_ ?_ fu _ _ ?_
  · rintro a w ⟨_, _, _, _, _, _, _, _, h⟩
    cases (show none = some _ from h)
  · rintro m48 a w41 ⟨out42, v43, F44, u45, i47, hK, hM, hf46, h⟩
    rw [d_laws_toPairS_L1_s] at h
    unfold d_laws_toPairS_L1_B at h
    refine wp_seq ?_
    refine wp_seq ?_
    refine wp_region_lit ?_
    iterate 2 (refine s1 hK rfl rfl rfl rfl fun a hK => ?_)
    refine s_val hK rfl rfl rfl (r_len (α := Pair) hp4 hK Tryz.underlying24 rfl rfl) fun a hK => ?_
    refine s1 hK rfl rfl rfl rfl fun a hK => ?_
    refine wpList_nil (nm_then ?_)
    refine c_cond (b := decide (i47 < ((a1.length : Int)))) hK rfl (fun hb49 => ?_) (fun hb49 => ?_)
    · have h := bif_t hb49 h
      refine wp_skip (nm_then ?_)
      refine wp_seq ?_
      refine wp_block ?_
      refine wp_region_lit ?_
      iterate 4 (refine s1 hK rfl rfl rfl rfl fun a hK => ?_)
      obtain ⟨x50, hx51, h⟩ := obind_some h
      refine s_val hK rfl rfl rfl (r_ixa hp4 hx51 hK ts24 rfl rfl rfl) fun a hK => ?_
      refine s_val hK rfl rfl rfl (r_lde hp4 (hM.a00 (Enc.rd_lt hp4)) hx51 ta146 hK rfl rfl) fun a hK => ?_
      obtain ⟨x52, hx53, h⟩ := obind_some h
      refine s_call hK Tryz.call137 rfl rfl rfl rfl rfl (c_laws_toPair fu (x50 : Pair)  hx53) fun e54 w55 hR => ?_
      obtain ⟨rfl, hE⟩ := hR
      refine ⟨_, rfl, fun a hK => ?_⟩
      have hM := hM.step hE
      obtain ⟨x56, hx57, h⟩ := obind_some h
      refine s_val hK rfl rfl rfl (r_ixa (Enc.ow_rd hf46) hx57 hK ts36 rfl rfl rfl) fun a hK => ?_
      refine s_ste (α := Pair) (sz := 2) (y := x52) Tryz.sizeOf144 hx57 hM 0 hf46 0 hK rfl rfl rfl rfl rfl rfl rfl rfl rfl rfl rfl rfl fun w58 a hK hE hM hf59 => ?_
      refine wpList_nil (nm_block (nm_then ?_))
      refine wp_region_lit ?_
      iterate 3 (refine s1 hK rfl rfl rfl rfl fun a hK => ?_)
      refine wpList_nil (nm_then ?_)
      exact ⟨setx out42 i47 x52, v43, F44, w58, w64 (i47 + 1), hK.keep [0, 3, 4] rfl, hM.sel [0] rfl (by decide), hf59, h⟩
    · have h := bif_f hb49 h
      refine wp_exit (ex_then (ex_then (ex_same (nm_then ?_))))
      refine wp_seq ?_
      refine wp_region_lit ?_
      iterate 2 (refine s1 hK rfl rfl rfl rfl fun a hK => ?_)
      refine wpList_nil (nm_then ?_)
      refine wp_ret ?_
      have h := Option.some.inj h
      subst h
      exact finR1 hK rfl (RV.tmp hK rfl) ⟨_, F44, rfl, hM.ext, (Enc.ow_agr hf46 (hM.a 0 rfl)), (hM.fresh 0 rfl)⟩
  · exact ⟨x5, v10, [g7], w8, 0, hK.keep [0, 3, 4] rfl, hM.sel [0] rfl (by decide), hf9, h⟩

theorem c_laws_toType (fu : Nat) {w0 : World} (a1 : Typ)  {r : Typ}
    (h : d_laws_toType fu a1 = some r) :
    Calls Tryz.prog 138 #[.agg (Flat.e (a1)).toArray] w0 fun e w => e = .returned (.agg (Flat.e r).toArray) ∧ Ext [] w0 w := by
  refine enter (vs := [_]) Tryz.func138 rfl Tryz.ntmps138 rfl fun a hK => ?_
  have hM := St.start w0
  unfold d_laws_toType at h
  refine wp_seq ?_
  refine wp_region_lit ?_
  refine s_box (cs := [.int .i64 (a1.fId), .int .i64 (a1.fW), .int .i64 (a1.fH), .int .i64 (a1.fD), .int .i64 (a1.fTare), .int .i64 (a1.fGram), .int .i64 (a1.fCost)]) hM hK rfl rfl rfl rfl rfl rfl fun b2 w4 a hK hM hE hb3 => ?_
  refine s_alloc (cs := [.int .i64 (0), .int .i64 (0), .int .i64 (0), .int .i64 (0), .int .i64 (0), .int .i64 (0), .int .i64 (0)]) hM hK Tryz.zeroValue92 rfl rfl rfl rfl rfl fun b5 w7 a hK hM hE hb6 => ?_
  refine wpList_nil (nm_then ?_)
  refine wp_seq ?_
  refine wp_region_lit ?_
  refine s_alloc (cs := [.int .i64 (0), .int .i64 (0), .int .i64 (0), .int .i64 (0), .int .i64 (0), .int .i64 (0), .int .i64 (0)]) hM hK Tryz.zeroValue92 rfl rfl rfl rfl rfl fun b8 w10 a hK hM hE hb9 => ?_
  refine wpList_nil (nm_then ?_)
  refine wp_seq ?_
  refine wp_region_lit ?_
  refine s_val hK rfl rfl rfl (r_fa fa148_0 hK rfl rfl) fun a hK => ?_
  refine s_val hK rfl rfl rfl (r_ldb t13 hM 2 hb3 0 hK rfl rfl rfl rfl rfl) fun a hK => ?_
  refine s_val hK rfl rfl rfl (r_fa fa92_0 hK rfl rfl) fun a hK => ?_
  refine s_stb (cs' := [.int .i64 (a1.fId), .int .i64 (0), .int .i64 (0), .int .i64 (0), .int .i64 (0), .int .i64 (0), .int .i64 (0)]) Tryz.sizeOf3 hM 0 hb9 0 hK rfl rfl rfl rfl rfl rfl rfl rfl rfl rfl rfl fun w11 a hK hE hM hb12 => ?_
  refine wpList_nil (nm_then ?_)
  refine wp_seq ?_
  refine wp_region_lit ?_
  refine s_val hK rfl rfl rfl (r_fa fa148_1 hK rfl rfl) fun a hK => ?_
  refine s_val hK rfl rfl rfl (r_ldb t13 hM 2 hb3 1 hK rfl rfl rfl rfl rfl) fun a hK => ?_
  refine s_val hK rfl rfl rfl (r_fa fa92_1 hK rfl rfl) fun a hK => ?_
  refine s_stb (cs' := [.int .i64 (a1.fId), .int .i64 (a1.fW), .int .i64 (0), .int .i64 (0), .int .i64 (0), .int .i64 (0), .int .i64 (0)]) Tryz.sizeOf3 hM 0 hb12 1 hK rfl rfl rfl rfl rfl rfl rfl rfl rfl rfl rfl fun w13 a hK hE hM hb14 => ?_
  refine wpList_nil (nm_then ?_)
  refine wp_seq ?_
  refine wp_region_lit ?_
  refine s_val hK rfl rfl rfl (r_fa fa148_2 hK rfl rfl) fun a hK => ?_
  refine s_val hK rfl rfl rfl (r_ldb t13 hM 2 hb3 2 hK rfl rfl rfl rfl rfl) fun a hK => ?_
  refine s_val hK rfl rfl rfl (r_fa fa92_2 hK rfl rfl) fun a hK => ?_
  refine s_stb (cs' := [.int .i64 (a1.fId), .int .i64 (a1.fW), .int .i64 (a1.fH), .int .i64 (0), .int .i64 (0), .int .i64 (0), .int .i64 (0)]) Tryz.sizeOf3 hM 0 hb14 2 hK rfl rfl rfl rfl rfl rfl rfl rfl rfl rfl rfl fun w15 a hK hE hM hb16 => ?_
  refine wpList_nil (nm_then ?_)
  refine wp_seq ?_
  refine wp_region_lit ?_
  refine s_val hK rfl rfl rfl (r_fa fa148_3 hK rfl rfl) fun a hK => ?_
  refine s_val hK rfl rfl rfl (r_ldb t13 hM 2 hb3 3 hK rfl rfl rfl rfl rfl) fun a hK => ?_
  refine s_val hK rfl rfl rfl (r_fa fa92_3 hK rfl rfl) fun a hK => ?_
  refine s_stb (cs' := [.int .i64 (a1.fId), .int .i64 (a1.fW), .int .i64 (a1.fH), .int .i64 (a1.fD), .int .i64 (0), .int .i64 (0), .int .i64 (0)]) Tryz.sizeOf3 hM 0 hb16 3 hK rfl rfl rfl rfl rfl rfl rfl rfl rfl rfl rfl fun w17 a hK hE hM hb18 => ?_
  refine wpList_nil (nm_then ?_)
  refine wp_seq ?_
  refine wp_region_lit ?_
  refine s_val hK rfl rfl rfl (r_fa fa148_4 hK rfl rfl) fun a hK => ?_
  refine s_val hK rfl rfl rfl (r_ldb t13 hM 2 hb3 4 hK rfl rfl rfl rfl rfl) fun a hK => ?_
  refine s_val hK rfl rfl rfl (r_fa fa92_4 hK rfl rfl) fun a hK => ?_
  refine s_stb (cs' := [.int .i64 (a1.fId), .int .i64 (a1.fW), .int .i64 (a1.fH), .int .i64 (a1.fD), .int .i64 (a1.fTare), .int .i64 (0), .int .i64 (0)]) Tryz.sizeOf3 hM 0 hb18 4 hK rfl rfl rfl rfl rfl rfl rfl rfl rfl rfl rfl fun w19 a hK hE hM hb20 => ?_
  refine wpList_nil (nm_then ?_)
  refine wp_seq ?_
  refine wp_region_lit ?_
  refine s_val hK rfl rfl rfl (r_fa fa148_5 hK rfl rfl) fun a hK => ?_
  refine s_val hK rfl rfl rfl (r_ldb t13 hM 2 hb3 5 hK rfl rfl rfl rfl rfl) fun a hK => ?_
  refine s_val hK rfl rfl rfl (r_fa fa92_5 hK rfl rfl) fun a hK => ?_
  refine s_stb (cs' := [.int .i64 (a1.fId), .int .i64 (a1.fW), .int .i64 (a1.fH), .int .i64 (a1.fD), .int .i64 (a1.fTare), .int .i64 (a1.fGram), .int .i64 (0)]) Tryz.sizeOf3 hM 0 hb20 5 hK rfl rfl rfl rfl rfl rfl rfl rfl rfl rfl rfl fun w21 a hK hE hM hb22 => ?_
  have hK := hK.keep [1, 2, 3] rfl
  refine wpList_nil (nm_then ?_)
  refine wp_seq ?_
  refine wp_region_lit ?_
  refine s_val hK rfl rfl rfl (r_fa fa148_6 hK rfl rfl) fun a hK => ?_
  refine s_val hK rfl rfl rfl (r_ldb t13 hM 2 hb3 6 hK rfl rfl rfl rfl rfl) fun a hK => ?_
  refine s_val hK rfl rfl rfl (r_fa fa92_6 hK rfl rfl) fun a hK => ?_
  refine s_stb (cs' := [.int .i64 (a1.fId), .int .i64 (a1.fW), .int .i64 (a1.fH), .int .i64 (a1.fD), .int .i64 (a1.fTare), .int .i64 (a1.fGram), .int .i64 (a1.fCost)]) Tryz.sizeOf3 hM 0 hb22 6 hK rfl rfl rfl rfl rfl rfl rfl rfl rfl rfl rfl fun w23 a hK hE hM hb24 => ?_
  refine wpList_nil (nm_then ?_)
  refine wp_seq ?_
  refine wp_region_lit ?_
  refine s_val hK rfl rfl rfl (r_ldB ta92 hM 0 hb24 0 hK rfl rfl rfl rfl rfl rfl) fun a hK => ?_
  refine s_stb (cs' := [.int .i64 (a1.fId), .int .i64 (a1.fW), .int .i64 (a1.fH), .int .i64 (a1.fD), .int .i64 (a1.fTare), .int .i64 (a1.fGram), .int .i64 (a1.fCost)]) Tryz.sizeOf92 hM 1 hb6 0 hK rfl rfl rfl rfl rfl rfl rfl rfl rfl rfl rfl fun w25 a hK hE hM hb26 => ?_
  refine wpList_nil (nm_then ?_)
  refine wp_ret ?_
  have h := Option.some.inj h
  subst h
  exact finR1 hK rfl (RV.cA hK rfl ta92 (hb26.at (hM.a 1 rfl) 0 7 rfl rfl rfl) rfl) ⟨rfl, hM.ext⟩

theorem c_laws_toTypeS (fu : Nat) {w0 : World} (a1 : List Typ) {v2 : Value} {F3 : List Nat} (hp4 : rd w0 F3 [v2] a1) {r : (List Typ)}
    (h : d_laws_toTypeS fu a1 = some r) :
    Calls Tryz.prog 73 #[v2] w0 fun e w => ∃ (v0 : Value) (G0 : List Nat), e = .returned (v0) ∧ Ext [] w0 w ∧ ow w G0 [v0] r ∧ (∀ b ∈ G0, w0.heap.size ≤ b) := by
  refine enter (vs := [_]) Tryz.func73 rfl Tryz.ntmps73 rfl fun a hK => ?_
  have hM := St.start w0
  unfold d_laws_toTypeS at h
  refine wp_seq ?_
  refine wp_region_lit ?_
  refine s1 hK rfl rfl rfl rfl fun a hK => ?_
  refine wpList_nil (nm_then ?_)
  refine wp_seq ?_
  refine wp_region_lit ?_
  refine s1 hK rfl rfl rfl rfl fun a hK => ?_
  refine s_val hK rfl rfl rfl (r_len (α := Typ) hp4 hK Tryz.underlying25 rfl rfl) fun a hK => ?_
  obtain ⟨x5, hx6, h⟩ := obind_some h
  refine s_mk hx6 te37 rfl rfl hM hK rfl rfl rfl rfl rfl rfl fun g7 w8 a v10 hK hM hE hf9 => ?_
  refine s1 hK rfl rfl rfl rfl fun a hK => ?_
  refine wpList_nil (nm_then ?_)
  refine wp_seq ?_
  refine wp_seq ?_
  refine wp_region_lit ?_
  refine s1 hK rfl rfl rfl rfl fun a hK => ?_
  refine wpList_nil (nm_then ?_)
  refine wp_block ?_
  refine c_loop (fun n a w => ∃ (out42 : List Typ) (v43 : Value) (F44 : List Nat) (u45 : World) (i47 : Int), K 23 [(0, v2), (3, v43), (4, .int .i64 (i47))] a ∧ St [] w0 w [(F44, u45)] ∧ ow u45 F44 [v43] out42 ∧ d_laws_toTypeS_L1 fu a1 n out42 i47 = some r) ?_ ?_ fu _ _ ?_
  · rintro a w ⟨_, _, _, _, _, _, _, _, h⟩
    cases (show none = some _ from h)
  · rintro m48 a w41 ⟨out42, v43, F44, u45, i47, hK, hM, hf46, h⟩
    rw [d_laws_toTypeS_L1_s] at h
    unfold d_laws_toTypeS_L1_B at h
    refine wp_seq ?_
    refine wp_seq ?_
    refine wp_region_lit ?_
    iterate 2 (refine s1 hK rfl rfl rfl rfl fun a hK => ?_)
    refine s_val hK rfl rfl rfl (r_len (α := Typ) hp4 hK Tryz.underlying25 rfl rfl) fun a hK => ?_
    refine s1 hK rfl rfl rfl rfl fun a hK => ?_
    refine wpList_nil (nm_then ?_)
    refine c_cond (b := decide (i47 < ((a1.length : Int)))) hK rfl (fun hb49 => ?_) (fun hb49 => ?_)
    · have h := bif_t hb49 h
      refine wp_skip (nm_then ?_)
      refine wp_seq ?_
      refine wp_block ?_
      refine wp_region_lit ?_
      iterate 4 (refine s1 hK rfl rfl rfl rfl fun a hK => ?_)
      obtain ⟨x50, hx51, h⟩ := obind_some h
      refine s_val hK rfl rfl rfl (r_ixa hp4 hx51 hK ts25 rfl rfl rfl) fun a hK => ?_
      refine s_val hK rfl rfl rfl (r_lde hp4 (hM.a00 (Enc.rd_lt hp4)) hx51 ta148 hK rfl rfl) fun a hK => ?_
      obtain ⟨x52, hx53, h⟩ := obind_some h
      refine s_call hK Tryz.call138 rfl rfl rfl rfl rfl (c_laws_toType fu (x50 : Typ)  hx53) fun e54 w55 hR => ?_
      obtain ⟨rfl, hE⟩ := hR
      refine ⟨_, rfl, fun a hK => ?_⟩
      have hM := hM.step hE
      obtain ⟨x56, hx57, h⟩ := obind_some h
      refine s_val hK rfl rfl rfl (r_ixa (Enc.ow_rd hf46) hx57 hK ts37 rfl rfl rfl) fun a hK => ?_
      refine s_ste (α := Typ) (sz := 7) (y := x52) Tryz.sizeOf92 hx57 hM 0 hf46 0 hK rfl rfl rfl rfl rfl rfl rfl rfl rfl rfl rfl rfl fun w58 a hK hE hM hf59 => ?_
      refine wpList_nil (nm_block (nm_then ?_))
      refine wp_region_lit ?_
      iterate 3 (refine s1 hK rfl rfl rfl rfl fun a hK => ?_)
      refine wpList_nil (nm_then ?_)
      exact ⟨setx out42 i47 x52, v43, F44, w58, w64 (i47 + 1), hK.keep [0, 3, 4] rfl, hM.sel [0] rfl (by decide), hf59, h⟩
    · have h := bif_f hb49 h
      refine wp_exit (ex_then (ex_then (ex_same (nm_then ?_))))
      refine wp_seq ?_
      refine wp_region_lit ?_
      iterate 2 (refine s1 hK rfl rfl rfl rfl fun a hK => ?_)
      refine wpList_nil (nm_then ?_)
      refine wp_ret ?_
      have h := Option.some.inj h
      subst h
      exact finR1 hK rfl (RV.tmp hK rfl) ⟨_, F44, rfl, hM.ext, (Enc.ow_agr hf46 (hM.a 0 rfl)), (hM.fresh 0 rfl)⟩
  · exact ⟨x5, v10, [g7], w8, 0, hK.keep [0, 3, 4] rfl, hM.sel [0] rfl (by decide), hf9, h⟩

theorem c_laws_toItem (fu : Nat) {w0 : World} (a1 : Item)  {r : Item}
    (h : d_laws_toItem fu a1 = some r) :
    Calls Tryz.prog 139 #[.agg (Flat.e (a1)).toArray] w0 fun e w => e = .returned (.agg (Flat.e r).toArray) ∧ Ext [] w0 w := by
  refine enter (vs := [_]) Tryz.func139 rfl Tryz.ntmps139 rfl fun a hK => ?_
  have hM := St.start w0
  unfold d_laws_toItem at h
  refine wp_seq ?_
  refine wp_region_lit ?_
  refine s_box (cs := [.int .i64 (a1.fId), .int .i64 (a1.fW), .int .i64 (a1.fH), .int .i64 (a1.fD), .int .i64 (a1.fGram), .int .i64 (a1.fClass), .int .i64 (a1.fCount)]) hM hK rfl rfl rfl rfl rfl rfl fun b2 w4 a hK hM hE hb3 => ?_
  refine s_alloc (cs := [.int .i64 (0), .int .i64 (0), .int .i64 (0), .int .i64 (0), .int .i64 (0), .int .i64 (0), .int .i64 (0)]) hM hK Tryz.zeroValue120 rfl rfl rfl rfl rfl fun b5 w7 a hK hM hE hb6 => ?_
  refine wpList_nil (nm_then ?_)
  refine wp_seq ?_
  refine wp_region_lit ?_
  refine s_alloc (cs := [.int .i64 (0), .int .i64 (0), .int .i64 (0), .int .i64 (0), .int .i64 (0), .int .i64 (0), .int .i64 (0)]) hM hK Tryz.zeroValue120 rfl rfl rfl rfl rfl fun b8 w10 a hK hM hE hb9 => ?_
  refine wpList_nil (nm_then ?_)
  refine wp_seq ?_
  refine wp_region_lit ?_
  refine s_val hK rfl rfl rfl (r_fa fa150_0 hK rfl rfl) fun a hK => ?_
  refine s_val hK rfl rfl rfl (r_ldb t13 hM 2 hb3 0 hK rfl rfl rfl rfl rfl) fun a hK => ?_
  refine s_val hK rfl rfl rfl (r_fa fa120_0 hK rfl rfl) fun a hK => ?_
  refine s_stb (cs' := [.int .i64 (a1.fId), .int .i64 (0), .int .i64 (0), .int .i64 (0), .int .i64 (0), .int .i64 (0), .int .i64 (0)]) Tryz.sizeOf3 hM 0 hb9 0 hK rfl rfl rfl rfl rfl rfl rfl rfl rfl rfl rfl fun w11 a hK hE hM hb12 => ?_
  refine wpList_nil (nm_then ?_)
  refine wp_seq ?_
  refine wp_region_lit ?_
  refine s_val hK rfl rfl rfl (r_fa fa150_1 hK rfl rfl) fun a hK => ?_
  refine s_val hK rfl rfl rfl (r_ldb t13 hM 2 hb3 1 hK rfl rfl rfl rfl rfl) fun a hK => ?_
  refine s_val hK rfl rfl rfl (r_fa fa120_1 hK rfl rfl) fun a hK => ?_
  refine s_stb (cs' := [.int .i64 (a1.fId), .int .i64 (a1.fW), .int .i64 (0), .int .i64 (0), .int .i64 (0), .int .i64 (0), .int .i64 (0)]) Tryz.sizeOf3 hM 0 hb12 1 hK rfl rfl rfl rfl rfl rfl rfl rfl rfl rfl rfl fun w13 a hK hE hM hb14 => ?_
  refine wpList_nil (nm_then ?_)
  refine wp_seq ?_
  refine wp_region_lit ?_
  refine s_val hK rfl rfl rfl (r_fa fa150_2 hK rfl rfl) fun a hK => ?_
  refine s_val hK rfl rfl rfl (r_ldb t13 hM 2 hb3 2 hK rfl rfl rfl rfl rfl) fun a hK => ?_
  refine s_val hK rfl rfl rfl (r_fa fa120_2 hK rfl rfl) fun a hK => ?_
  refine s_stb (cs' := [.int .i64 (a1.fId), .int .i64 (a1.fW), .int .i64 (a1.fH), .int .i64 (0), .int .i64 (0), .int .i64 (0), .int .i64 (0)]) Tryz.sizeOf3 hM 0 hb14 2 hK rfl rfl rfl rfl rfl rfl rfl rfl rfl rfl rfl fun w15 a hK hE hM hb16 => ?_
  refine wpList_nil (nm_then ?_)
  refine wp_seq ?_
  refine wp_region_lit ?_
  refine s_val hK rfl rfl rfl (r_fa fa150_3 hK rfl rfl) fun a hK => ?_
  refine s_val hK rfl rfl rfl (r_ldb t13 hM 2 hb3 3 hK rfl rfl rfl rfl rfl) fun a hK => ?_
  refine s_val hK rfl rfl rfl (r_fa fa120_3 hK rfl rfl) fun a hK => ?_
  refine s_stb (cs' := [.int .i64 (a1.fId), .int .i64 (a1.fW), .int .i64 (a1.fH), .int .i64 (a1.fD), .int .i64 (0), .int .i64 (0), .int .i64 (0)]) Tryz.sizeOf3 hM 0 hb16 3 hK rfl rfl rfl rfl rfl rfl rfl rfl rfl rfl rfl fun w17 a hK hE hM hb18 => ?_
  refine wpList_nil (nm_then ?_)
  refine wp_seq ?_
  refine wp_region_lit ?_
  refine s_val hK rfl rfl rfl (r_fa fa150_4 hK rfl rfl) fun a hK => ?_
  refine s_val hK rfl rfl rfl (r_ldb t13 hM 2 hb3 4 hK rfl rfl rfl rfl rfl) fun a hK => ?_
  refine s_val hK rfl rfl rfl (r_fa fa120_4 hK rfl rfl) fun a hK => ?_
  refine s_stb (cs' := [.int .i64 (a1.fId), .int .i64 (a1.fW), .int .i64 (a1.fH), .int .i64 (a1.fD), .int .i64 (a1.fGram), .int .i64 (0), .int .i64 (0)]) Tryz.sizeOf3 hM 0 hb18 4 hK rfl rfl rfl rfl rfl rfl rfl rfl rfl rfl rfl fun w19 a hK hE hM hb20 => ?_
  refine wpList_nil (nm_then ?_)
  refine wp_seq ?_
  refine wp_region_lit ?_
  refine s_val hK rfl rfl rfl (r_fa fa150_5 hK rfl rfl) fun a hK => ?_
  refine s_val hK rfl rfl rfl (r_ldb t13 hM 2 hb3 5 hK rfl rfl rfl rfl rfl) fun a hK => ?_
  refine s_val hK rfl rfl rfl (r_fa fa120_5 hK rfl rfl) fun a hK => ?_
  refine s_stb (cs' := [.int .i64 (a1.fId), .int .i64 (a1.fW), .int .i64 (a1.fH), .int .i64 (a1.fD), .int .i64 (a1.fGram), .int .i64 (a1.fClass), .int .i64 (0)]) Tryz.sizeOf3 hM 0 hb20 5 hK rfl rfl rfl rfl rfl rfl rfl rfl rfl rfl rfl fun w21 a hK hE hM hb22 => ?_
  have hK := hK.keep [1, 2, 3] rfl
  refine wpList_nil (nm_then ?_)
  refine wp_seq ?_
  refine wp_region_lit ?_
  refine s_val hK rfl rfl rfl (r_fa fa150_6 hK rfl rfl) fun a hK => ?_
  refine s_val hK rfl rfl rfl (r_ldb t13 hM 2 hb3 6 hK rfl rfl rfl rfl rfl) fun a hK => ?_
  refine s_val hK rfl rfl rfl (r_fa fa120_6 hK rfl rfl) fun a hK => ?_
  refine s_stb (cs' := [.int .i64 (a1.fId), .int .i64 (a1.fW), .int .i64 (a1.fH), .int .i64 (a1.fD), .int .i64 (a1.fGram), .int .i64 (a1.fClass), .int .i64 (a1.fCount)]) Tryz.sizeOf3 hM 0 hb22 6 hK rfl rfl rfl rfl rfl rfl rfl rfl rfl rfl rfl fun w23 a hK hE hM hb24 => ?_
  refine wpList_nil (nm_then ?_)
  refine wp_seq ?_
  refine wp_region_lit ?_
  refine s_val hK rfl rfl rfl (r_ldB ta120 hM 0 hb24 0 hK rfl rfl rfl rfl rfl rfl) fun a hK => ?_
  refine s_stb (cs' := [.int .i64 (a1.fId), .int .i64 (a1.fW), .int .i64 (a1.fH), .int .i64 (a1.fD), .int .i64 (a1.fGram), .int .i64 (a1.fClass), .int .i64 (a1.fCount)]) Tryz.sizeOf120 hM 1 hb6 0 hK rfl rfl rfl rfl rfl rfl rfl rfl rfl rfl rfl fun w25 a hK hE hM hb26 => ?_
  refine wpList_nil (nm_then ?_)
  refine wp_ret ?_
  have h := Option.some.inj h
  subst h
  exact finR1 hK rfl (RV.cA hK rfl ta120 (hb26.at (hM.a 1 rfl) 0 7 rfl rfl rfl) rfl) ⟨rfl, hM.ext⟩

theorem c_laws_toItemS (fu : Nat) {w0 : World} (a1 : List Item) {v2 : Value} {F3 : List Nat} (hp4 : rd w0 F3 [v2] a1) {r : (List Item)}
    (h : d_laws_toItemS fu a1 = some r) :
    Calls Tryz.prog 74 #[v2] w0 fun e w => ∃ (v0 : Value) (G0 : List Nat), e = .returned (v0) ∧ Ext [] w0 w ∧ ow w G0 [v0] r ∧ (∀ b ∈ G0, w0.heap.size ≤ b) := by
  refine enter (vs := [_]) Tryz.func74 rfl Tryz.ntmps74 rfl fun a hK => ?_
  have hM := St.start w0
  unfold d_laws_toItemS at h
  refine wp_seq ?_
  refine wp_region_lit ?_
  refine s1 hK rfl rfl rfl rfl fun a hK => ?_
  refine wpList_nil (nm_then ?_)
  refine wp_seq ?_
  refine wp_region_lit ?_
  refine s1 hK rfl rfl rfl rfl fun a hK => ?_
  refine s_val hK rfl rfl rfl (r_len (α := Item) hp4 hK Tryz.underlying26 rfl rfl) fun a hK => ?_
  obtain ⟨x5, hx6, h⟩ := obind_some h
  refine s_mk hx6 te38 rfl rfl hM hK rfl rfl rfl rfl rfl rfl fun g7 w8 a v10 hK hM hE hf9 => ?_
  refine s1 hK rfl rfl rfl rfl fun a hK => ?_
  refine wpList_nil (nm_then ?_)
  refine wp_seq ?_
  refine wp_seq ?_
  refine wp_region_lit ?_
  refine s1 hK rfl rfl rfl rfl fun a hK => ?_
  refine wpList_nil (nm_then ?_)
  refine wp_block ?_
  refine c_loop (fun n a w => ∃ (out42 : List Item) (v43 : Value) (F44 : List Nat) (u45 : World) (i47 : Int), K 23 [(0, v2), (3, v43), (4, .int .i64 (i47))] a ∧ St [] w0 w [(F44, u45)] ∧ ow u45 F44 [v43] out42 ∧ d_laws_toItemS_L1 fu a1 n out42 i47 = some r) ?_ ?_ fu _ _ ?_
  · rintro a w ⟨_, _, _, _, _, _, _, _, h⟩
    cases (show none = some _ from h)
  · rintro m48 a w41 ⟨out42, v43, F44, u45, i47, hK, hM, hf46, h⟩
    rw [d_laws_toItemS_L1_s] at h
    unfold d_laws_toItemS_L1_B at h
    refine wp_seq ?_
    refine wp_seq ?_
    refine wp_region_lit ?_
    iterate 2 (refine s1 hK rfl rfl rfl rfl fun a hK => ?_)
    refine s_val hK rfl rfl rfl (r_len (α := Item) hp4 hK Tryz.underlying26 rfl rfl) fun a hK => ?_
    refine s1 hK rfl rfl rfl rfl fun a hK => ?_
    refine wpList_nil (nm_then ?_)
    refine c_cond (b := decide (i47 < ((a1.length : Int)))) hK rfl (fun hb49 => ?_) (fun hb49 => ?_)
    · have h := bif_t hb49 h
      refine wp_skip (nm_then ?_)
      refine wp_seq ?_
      refine wp_block ?_
      refine wp_region_lit ?_
      iterate 4 (refine s1 hK rfl rfl rfl rfl fun a hK => ?_)
      obtain ⟨x50, hx51, h⟩ := obind_some h
      refine s_val hK rfl rfl rfl (r_ixa hp4 hx51 hK ts26 rfl rfl rfl) fun a hK => ?_
      refine s_val hK rfl rfl rfl (r_lde hp4 (hM.a00 (Enc.rd_lt hp4)) hx51 ta150 hK rfl rfl) fun a hK => ?_
      obtain ⟨x52, hx53, h⟩ := obind_some h
      refine s_call hK Tryz.call139 rfl rfl rfl rfl rfl (c_laws_toItem fu (x50 : Item)  hx53) fun e54 w55 hR => ?_
      obtain ⟨rfl, hE⟩ := hR
      refine ⟨_, rfl, fun a hK => ?_⟩
      have hM := hM.step hE
      obtain ⟨x56, hx57, h⟩ := obind_some h
      refine s_val hK rfl rfl rfl (r_ixa (Enc.ow_rd hf46) hx57 hK ts38 rfl rfl rfl) fun a hK => ?_
      refine s_ste (α := Item) (sz := 7) (y := x52) Tryz.sizeOf120 hx57 hM 0 hf46 0 hK rfl rfl rfl rfl rfl rfl rfl rfl rfl rfl rfl rfl fun w58 a hK hE hM hf59 => ?_
      refine wpList_nil (nm_block (nm_then ?_))
      refine wp_region_lit ?_
      iterate 3 (refine s1 hK rfl rfl rfl rfl fun a hK => ?_)
      refine wpList_nil (nm_then ?_)
      exact ⟨setx out42 i47 x52, v43, F44, w58, w64 (i47 + 1), hK.keep [0, 3, 4] rfl, hM.sel [0] rfl (by decide), hf59, h⟩
    · have h := bif_f hb49 h
      refine wp_exit (ex_then (ex_then (ex_same (nm_then ?_))))
      refine wp_seq ?_
      refine wp_region_lit ?_
      iterate 2 (refine s1 hK rfl rfl rfl rfl fun a hK => ?_)
      refine wpList_nil (nm_then ?_)
      refine wp_ret ?_
      have h := Option.some.inj h
      subst h
      exact finR1 hK rfl (RV.tmp hK rfl) ⟨_, F44, rfl, hM.ext, (Enc.ow_agr hf46 (hM.a 0 rfl)), (hM.fresh 0 rfl)⟩
  · exact ⟨x5, v10, [g7], w8, 0, hK.keep [0, 3, 4] rfl, hM.sel [0] rfl (by decide), hf9, h⟩

theorem c_laws_toRequest (fu : Nat) {w0 : World} (a1 : Request) {cs2 : List Value} {F3 : List Nat} (hp4 : rd w0 F3 cs2 a1) {r : Request}
    (h : d_laws_toRequest fu a1 = some r) :
    Calls Tryz.prog 18 #[.agg cs2.toArray] w0 fun e w => ∃ (cs0 : List Value) (G0 : List Nat), e = .returned (.agg cs0.toArray) ∧ Ext [] w0 w ∧ ow w G0 cs0 r ∧ (∀ b ∈ G0, w0.heap.size ≤ b) := by
  refine enter (vs := [_]) Tryz.func18 rfl Tryz.ntmps18 rfl fun a hK => ?_
  have hM := St.start w0
  obtain ⟨v5, F6, v7, F8, v9, F10, rfl, rfl, hf11, hf12, hf13⟩ := hp4
  unfold d_laws_toRequest at h
  refine wp_seq ?_
  refine wp_region_lit ?_
  refine s_box (cs := [.int .i64 (a1.fWay), .int .i64 (a1.fPallet.fW), .int .i64 (a1.fPallet.fD), .int .i64 (a1.fPallet.fH), .int .i64 (a1.fPallet.fGram), .int .i64 (a1.fClasses), v5, v7, .int .i64 (a1.fMaster), v9]) hM hK rfl rfl rfl rfl rfl rfl fun b14 w16 a hK hM hE hb15 => ?_
  refine s_alloc (cs := [.int .i64 (0), .int .i64 (0), .int .i64 (0), .int .i64 (0), .int .i64 (0), .int .i64 (0), .slice none 0 0, .slice none 0 0, .int .i64 (0), .slice none 0 0]) hM hK Tryz.zeroValue40 rfl rfl rfl rfl rfl fun b17 w19 a hK hM hE hb18 => ?_
  refine wpList_nil (nm_then ?_)
  refine wp_seq ?_
  refine wp_region_lit ?_
  refine s_alloc (cs := [.int .i64 (0), .int .i64 (0), .int .i64 (0), .int .i64 (0), .int .i64 (0), .int .i64 (0), .slice none 0 0, .slice none 0 0, .int .i64 (0), .slice none 0 0]) hM hK Tryz.zeroValue40 rfl rfl rfl rfl rfl fun b20 w22 a hK hM hE hb21 => ?_
  refine wpList_nil (nm_then ?_)
  refine wp_seq ?_
  refine wp_region_lit ?_
  refine s_val hK rfl rfl rfl (r_fa fa28_0 hK rfl rfl) fun a hK => ?_
  refine s_val hK rfl rfl rfl (r_ldb t13 hM 2 hb15 0 hK rfl rfl rfl rfl rfl) fun a hK => ?_
  refine s_val hK rfl rfl rfl (r_fa fa40_0 hK rfl rfl) fun a hK => ?_
  refine s_stb (cs' := [.int .i64 (a1.fWay), .int .i64 (0), .int .i64 (0), .int .i64 (0), .int .i64 (0), .int .i64 (0), .slice none 0 0, .slice none 0 0, .int .i64 (0), .slice none 0 0]) Tryz.sizeOf3 hM 0 hb21 0 hK rfl rfl rfl rfl rfl rfl rfl rfl rfl rfl rfl fun w23 a hK hE hM hb24 => ?_
  refine wpList_nil (nm_then ?_)
  refine wp_seq ?_
  refine wp_region_lit ?_
  refine s_val hK rfl rfl rfl (r_fa fa28_1 hK rfl rfl) fun a hK => ?_
  refine s_val hK rfl rfl rfl (r_ldB ta23 hM 2 hb15 1 hK rfl rfl rfl rfl rfl rfl) fun a hK => ?_
  obtain ⟨x25, hx26, h⟩ := obind_some h
  refine s_call hK Tryz.call71 rfl rfl rfl rfl rfl (c_laws_toPallet fu (a1.fPallet : Pallet)  hx26) fun e27 w28 hR => ?_
  obtain ⟨rfl, hE⟩ := hR
  refine ⟨_, rfl, fun a hK => ?_⟩
  have hM := hM.step hE
  refine s_val hK rfl rfl rfl (r_fa fa40_1 hK rfl rfl) fun a hK => ?_
  refine s_stb (cs' := [.int .i64 (a1.fWay), .int .i64 (x25.fW), .int .i64 (x25.fD), .int .i64 (x25.fH), .int .i64 (x25.fGram), .int .i64 (0), .slice none 0 0, .slice none 0 0, .int .i64 (0), .slice none 0 0]) Tryz.sizeOf35 hM 0 hb24 1 hK rfl rfl rfl rfl rfl rfl rfl rfl rfl rfl rfl fun w29 a hK hE hM hb30 => ?_
  refine wpList_nil (nm_then ?_)
  refine wp_seq ?_
  refine wp_region_lit ?_
  refine s_val hK rfl rfl rfl (r_fa fa28_2 hK rfl rfl) fun a hK => ?_
  refine s_val hK rfl rfl rfl (r_ldb t13 hM 2 hb15 5 hK rfl rfl rfl rfl rfl) fun a hK => ?_
  refine s_val hK rfl rfl rfl (r_fa fa40_2 hK rfl rfl) fun a hK => ?_
  refine s_stb (cs' := [.int .i64 (a1.fWay), .int .i64 (x25.fW), .int .i64 (x25.fD), .int .i64 (x25.fH), .int .i64 (x25.fGram), .int .i64 (a1.fClasses), .slice none 0 0, .slice none 0 0, .int .i64 (0), .slice none 0 0]) Tryz.sizeOf3 hM 0 hb30 5 hK rfl rfl rfl rfl rfl rfl rfl rfl rfl rfl rfl fun w31 a hK hE hM hb32 => ?_
  refine wpList_nil (nm_then ?_)
  refine wp_seq ?_
  refine wp_region_lit ?_
  refine s_val hK rfl rfl rfl (r_fa fa28_3 hK rfl rfl) fun a hK => ?_
  refine s_val hK rfl rfl rfl (r_ldb t124 hM 2 hb15 6 hK rfl rfl rfl rfl rfl) fun a hK => ?_
  obtain ⟨x33, hx34, h⟩ := obind_some h
  refine s_call hK Tryz.call72 rfl rfl rfl rfl rfl (c_laws_toPairS fu _ (Enc.rd_agr hf11 (hM.a00 (Enc.rd_lt hf11))) hx34) fun e35 w36 hR => ?_
  obtain ⟨v41, F37, rfl, hE, hf38, hfr39⟩ := hR
  refine ⟨_, rfl, fun a hK => ?_⟩
  have hM := hM.new hE F37 (fun b hb => ⟨hfr39 b hb, Enc.rd_lt (Enc.ow_rd hf38) b hb⟩) (Enc.ow_nd hf38)
  refine s_val hK rfl rfl rfl (r_fa fa40_3 hK rfl rfl) fun a hK => ?_
  refine s_stb1 (cs' := [.int .i64 (a1.fWay), .int .i64 (x25.fW), .int .i64 (x25.fD), .int .i64 (x25.fH), .int .i64 (x25.fGram), .int .i64 (a1.fClasses), v41, .slice none 0 0, .int .i64 (0), .slice none 0 0]) Tryz.sizeOf36 hM 1 hb32 6 hK (rd_c (Enc.ow_rd hf38)) (rd_o (Enc.ow_rd hf38)) rfl rfl rfl rfl rfl rfl rfl rfl rfl fun w42 a hK hE hM hb43 => ?_
  refine wpList_nil (nm_then ?_)
  refine wp_seq ?_
  refine wp_region_lit ?_
  refine s_val hK rfl rfl rfl (r_fa fa28_4 hK rfl rfl) fun a hK => ?_
  refine s_val hK rfl rfl rfl (r_ldb t125 hM 3 hb15 7 hK rfl rfl rfl rfl rfl) fun a hK => ?_
  obtain ⟨x44, hx45, h⟩ := obind_some h
  refine s_call hK Tryz.call73 rfl rfl rfl rfl rfl (c_laws_toTypeS fu _ (Enc.rd_agr hf12 (hM.a00 (Enc.rd_lt hf12))) hx45) fun e46 w47 hR => ?_
  obtain ⟨v52, F48, rfl, hE, hf49, hfr50⟩ := hR
  refine ⟨_, rfl, fun a hK => ?_⟩
  have hM := hM.new hE F48 (fun b hb => ⟨hfr50 b hb, Enc.rd_lt (Enc.ow_rd hf49) b hb⟩) (Enc.ow_nd hf49)
  refine s_val hK rfl rfl rfl (r_fa fa40_4 hK rfl rfl) fun a hK => ?_
  refine s_stb1 (cs' := [.int .i64 (a1.fWay), .int .i64 (x25.fW), .int .i64 (x25.fD), .int .i64 (x25.fH), .int .i64 (x25.fGram), .int .i64 (a1.fClasses), v41, v52, .int .i64 (0), .slice none 0 0]) Tryz.sizeOf37 hM 2 hb43 7 hK (rd_c (Enc.ow_rd hf49)) (rd_o (Enc.ow_rd hf49)) rfl rfl rfl rfl rfl rfl rfl rfl rfl fun w53 a hK hE hM hb54 => ?_
  refine wpList_nil (nm_then ?_)
  refine wp_seq ?_
  refine wp_region_lit ?_
  refine s_val hK rfl rfl rfl (r_fa fa28_5 hK rfl rfl) fun a hK => ?_
  refine s_val hK rfl rfl rfl (r_ldb t13 hM 4 hb15 8 hK rfl rfl rfl rfl rfl) fun a hK => ?_
  refine s_val hK rfl rfl rfl (r_fa fa40_5 hK rfl rfl) fun a hK => ?_
  refine s_stb (cs' := [.int .i64 (a1.fWay), .int .i64 (x25.fW), .int .i64 (x25.fD), .int .i64 (x25.fH), .int .i64 (x25.fGram), .int .i64 (a1.fClasses), v41, v52, .int .i64 (a1.fMaster), .slice none 0 0]) Tryz.sizeOf3 hM 2 hb54 8 hK rfl rfl rfl rfl rfl rfl rfl rfl rfl rfl rfl fun w55 a hK hE hM hb56 => ?_
  have hK := hK.keep [1, 2, 3] rfl
  refine wpList_nil (nm_then ?_)
  refine wp_seq ?_
  refine wp_region_lit ?_
  refine s_val hK rfl rfl rfl (r_fa fa28_6 hK rfl rfl) fun a hK => ?_
  refine s_val hK rfl rfl rfl (r_ldb t126 hM 4 hb15 9 hK rfl rfl rfl rfl rfl) fun a hK => ?_
  obtain ⟨x57, hx58, h⟩ := obind_some h
  refine s_call hK Tryz.call74 rfl rfl rfl rfl rfl (c_laws_toItemS fu _ (Enc.rd_agr hf13 (hM.a00 (Enc.rd_lt hf13))) hx58) fun e59 w60 hR => ?_
  obtain ⟨v65, F61, rfl, hE, hf62, hfr63⟩ := hR
  refine ⟨_, rfl, fun a hK => ?_⟩
  have hM := hM.new hE F61 (fun b hb => ⟨hfr63 b hb, Enc.rd_lt (Enc.ow_rd hf62) b hb⟩) (Enc.ow_nd hf62)
  refine s_val hK rfl rfl rfl (r_fa fa40_6 hK rfl rfl) fun a hK => ?_
  refine s_stb1 (cs' := [.int .i64 (a1.fWay), .int .i64 (x25.fW), .int .i64 (x25.fD), .int .i64 (x25.fH), .int .i64 (x25.fGram), .int .i64 (a1.fClasses), v41, v52, .int .i64 (a1.fMaster), v65]) Tryz.sizeOf38 hM 3 hb56 9 hK (rd_c (Enc.ow_rd hf62)) (rd_o (Enc.ow_rd hf62)) rfl rfl rfl rfl rfl rfl rfl rfl rfl fun w66 a hK hE hM hb67 => ?_
  refine wpList_nil (nm_then ?_)
  refine wp_seq ?_
  refine wp_region_lit ?_
  refine s_val hK rfl rfl rfl (r_ldB ta40 hM 3 hb67 0 hK rfl rfl rfl rfl rfl rfl) fun a hK => ?_
  refine s_stb (cs' := [.int .i64 (a1.fWay), .int .i64 (x25.fW), .int .i64 (x25.fD), .int .i64 (x25.fH), .int .i64 (x25.fGram), .int .i64 (a1.fClasses), v41, v52, .int .i64 (a1.fMaster), v65]) Tryz.sizeOf40 hM 4 hb18 0 hK rfl rfl rfl rfl rfl rfl rfl rfl rfl rfl (allc rfl (allc rfl (allc rfl (allc rfl (allc rfl (allc rfl (allc (rd_o (Enc.ow_rd hf38)) (allc (rd_o (Enc.ow_rd hf49)) (allc rfl (allc (rd_o (Enc.ow_rd hf62)) alln)))))))))) fun w68 a hK hE hM hb69 => ?_
  refine wpList_nil (nm_then ?_)
  refine wp_ret ?_
  have h := Option.some.inj h
  subst h
  exact finR1 hK rfl (RV.cA hK rfl ta40 (hb69.at (hM.a 4 rfl) 0 10 rfl rfl rfl) rfl) ⟨_, _, rfl, hM.ext, ⟨_, F37, _, F48, _, F61, rfl, rfl, (Enc.ow_agr hf38 (hM.a 2 rfl)), (Enc.ow_agr hf49 (hM.a 1 rfl)), (Enc.ow_agr hf62 (hM.a 0 rfl)), by simpa [fps] using (hM.sel [2, 1, 0] rfl (by decide)).nd⟩, (app_fresh (hM.fresh 2 rfl) (app_fresh (hM.fresh 1 rfl) (hM.fresh 0 rfl)))⟩

theorem c_spec_l1In (fu : Nat) {w0 : World} (x1 : Int) (lo2 : Int) (hi3 : Int)  {r : Bool}
    (h : d_spec_l1In fu x1 lo2 hi3 = some r) :
    Calls Tryz.prog 136 #[.int .i64 (x1), .int .i64 (lo2), .int .i64 (hi3)] w0 fun e w => e = .returned (.bool (r)) ∧ Ext [] w0 w := by
  refine enter (vs := [_, _, _]) Tryz.func136 rfl Tryz.ntmps136 rfl fun a hK => ?_
  have hM := St.start w0
  unfold d_spec_l1In at h
  refine wp_seq ?_
  refine wp_region_lit ?_
  refine s1 hK rfl rfl rfl rfl fun a hK => ?_
  refine wpList_nil (nm_then ?_)
  refine wp_seq ?_
  refine wp_region_lit ?_
  iterate 4 (refine s1 hK rfl rfl rfl rfl fun a hK => ?_)
  refine bsplit (decide (x1 ≥ lo2)) (fun hb4 => ?_) (fun hb4 => ?_)
  · have h := bif_t hb4 h
    have hK := hK.re (d := 10) rfl (congrArg Value.bool hb4)
    iterate 5 (refine s1 hK rfl rfl rfl rfl fun a hK => ?_)
    refine wpList_nil (nm_then ?_)
    refine wp_ret ?_
    have h := Option.some.inj h
    subst h
    exact finR1 hK rfl (RV.tmp hK rfl) ⟨rfl, hM.ext⟩
  · have h := bif_f hb4 h
    have hK := hK.re (d := 10) rfl (congrArg Value.bool hb4)
    refine sk hK rfl rfl rfl fun a hK => ?_
    refine sk hK rfl rfl rfl fun a hK => ?_
    refine sk hK rfl rfl rfl fun a hK => ?_
    iterate 2 (refine s1 hK rfl rfl rfl rfl fun a hK => ?_)
    refine wpList_nil (nm_then ?_)
    refine wp_ret ?_
    have h := Option.some.inj h
    subst h
    exact finR1 hK rfl (RV.tmp hK rfl) ⟨rfl, hM.ext⟩

theorem c_spec_l2Side (fu : Nat) {w0 : World} (x1 : Int)  {r : Bool}
    (h : d_spec_l2Side fu x1 = some r) :
    Calls Tryz.prog 197 #[.int .i64 (x1)] w0 fun e w => e = .returned (.bool (r)) ∧ Ext [] w0 w := by
  refine enter (vs := [_]) Tryz.func197 rfl Tryz.ntmps197 rfl fun a hK => ?_
  have hM := St.start w0
  unfold d_spec_l2Side at h
  refine wp_seq ?_
  refine wp_region_lit ?_
  refine s1 hK rfl rfl rfl rfl fun a hK => ?_
  refine wpList_nil (nm_then ?_)
  refine wp_seq ?_
  refine wp_region_lit ?_
  refine s1 hK rfl rfl rfl rfl fun a hK => ?_
  obtain ⟨x2, hx3, h⟩ := obind_some h
  refine s_call hK Tryz.call136 rfl rfl rfl rfl rfl (c_spec_l1In fu _ _ _  hx3) fun e4 w5 hR => ?_
  obtain ⟨rfl, hE⟩ := hR
  refine ⟨_, rfl, fun a hK => ?_⟩
  have hM := hM.step hE
  refine s1 hK rfl rfl rfl rfl fun a hK => ?_
  refine wpList_nil (nm_then ?_)
  refine wp_ret ?_
  have h := Option.some.inj h
  subst h
  exact finR1 hK rfl (RV.tmp hK rfl) ⟨rfl, hM.ext⟩

theorem c_spec_PalletOk (fu : Nat) {w0 : World} (x1 : Pallet)  {r : Bool}
    (h : d_spec_PalletOk fu x1 = some r) :
    Calls Tryz.prog 174 #[.agg (Flat.e (x1)).toArray] w0 fun e w => e = .returned (.bool (r)) ∧ Ext [] w0 w := by
  refine enter (vs := [_]) Tryz.func174 rfl Tryz.ntmps174 rfl fun a hK => ?_
  have hM := St.start w0
  unfold d_spec_PalletOk at h
  refine wp_seq ?_
  refine wp_region_lit ?_
  refine s_box (cs := [.int .i64 (x1.fW), .int .i64 (x1.fD), .int .i64 (x1.fH), .int .i64 (x1.fGram)]) hM hK rfl rfl rfl rfl rfl rfl fun b2 w4 a hK hM hE hb3 => ?_
  refine s1 hK rfl rfl rfl rfl fun a hK => ?_
  refine wpList_nil (nm_then ?_)
  refine wp_seq ?_
  refine wp_region_lit ?_
  refine s_val hK rfl rfl rfl (r_fa fa35_0 hK rfl rfl) fun a hK => ?_
  refine s_val hK rfl rfl rfl (r_ldb t13 hM 0 hb3 0 hK rfl rfl rfl rfl rfl) fun a hK => ?_
  obtain ⟨x5, hx6, h⟩ := obind_some h
  refine s_call hK Tryz.call197 rfl rfl rfl rfl rfl (c_spec_l2Side fu _  hx6) fun e7 w8 hR => ?_
  obtain ⟨rfl, hE⟩ := hR
  refine ⟨_, rfl, fun a hK => ?_⟩
  have hM := hM.step hE
  refine s1 hK rfl rfl rfl rfl fun a hK => ?_
  refine bsplit (x5) (fun hb9 => ?_) (fun hb9 => ?_)
  · have h := bif_t hb9 h
    have hK := hK.re (d := 6) rfl (congrArg Value.bool hb9)
    refine s_val hK rfl rfl rfl (r_fa fa35_1 hK rfl rfl) fun a hK => ?_
    refine s_val hK rfl rfl rfl (r_ldb t13 hM 0 hb3 1 hK rfl rfl rfl rfl rfl) fun a hK => ?_
    obtain ⟨x10, hx11, h⟩ := obind_some h
    refine s_call hK Tryz.call197 rfl rfl rfl rfl rfl (c_spec_l2Side fu _  hx11) fun e12 w13 hR => ?_
    obtain ⟨rfl, hE⟩ := hR
    refine ⟨_, rfl, fun a hK => ?_⟩
    have hM := hM.step hE
    iterate 2 (refine s1 hK rfl rfl rfl rfl fun a hK => ?_)
    refine bsplit (x10) (fun hb14 => ?_) (fun hb14 => ?_)
    · have h := bif_t hb14 h
      have hK := hK.re (d := 11) rfl (congrArg Value.bool hb14)
      refine s_val hK rfl rfl rfl (r_fa fa35_2 hK rfl rfl) fun a hK => ?_
      refine s_val hK rfl rfl rfl (r_ldb t13 hM 0 hb3 2 hK rfl rfl rfl rfl rfl) fun a hK => ?_
      obtain ⟨x15, hx16, h⟩ := obind_some h
      refine s_call hK Tryz.call197 rfl rfl rfl rfl rfl (c_spec_l2Side fu _  hx16) fun e17 w18 hR => ?_
      obtain ⟨rfl, hE⟩ := hR
      refine ⟨_, rfl, fun a hK => ?_⟩
      have hM := hM.step hE
      iterate 2 (refine s1 hK rfl rfl rfl rfl fun a hK => ?_)
      refine bsplit (x15) (fun hb19 => ?_) (fun hb19 => ?_)
      · have h := bif_t hb19 h
        have hK := hK.re (d := 16) rfl (congrArg Value.bool hb19)
        refine s_val hK rfl rfl rfl (r_fa fa35_3 hK rfl rfl) fun a hK => ?_
        refine s_val hK rfl rfl rfl (r_ldb t13 hM 0 hb3 3 hK rfl rfl rfl rfl rfl) fun a hK => ?_
        obtain ⟨x20, hx21, h⟩ := obind_some h
        refine s_call hK Tryz.call136 rfl rfl rfl rfl rfl (c_spec_l1In fu _ _ _  hx21) fun e22 w23 hR => ?_
        obtain ⟨rfl, hE⟩ := hR
        refine ⟨_, rfl, fun a hK => ?_⟩
        have hM := hM.step hE
        iterate 2 (refine s1 hK rfl rfl rfl rfl fun a hK => ?_)
        refine wpList_nil (nm_then ?_)
        refine wp_ret ?_
        have h := Option.some.inj h
        subst h
        exact finR1 hK rfl (RV.tmp hK rfl) ⟨rfl, hM.ext⟩
      · have h := bif_f hb19 h
        have hK := hK.re (d := 16) rfl (congrArg Value.bool hb19)
        refine sk hK rfl rfl rfl fun a hK => ?_
        refine sk hK rfl rfl rfl fun a hK => ?_
        refine sk hK rfl rfl rfl fun a hK => ?_
        iterate 2 (refine s1 hK rfl rfl rfl rfl fun a hK => ?_)
        refine wpList_nil (nm_then ?_)
        refine wp_ret ?_
        have h := Option.some.inj h
        subst h
        exact finR1 hK rfl (RV.tmp hK rfl) ⟨rfl, hM.ext⟩
    · have h := bif_f hb14 h
      have hK := hK.re (d := 11) rfl (congrArg Value.bool hb14)
      refine sk hK rfl rfl rfl fun a hK => ?_
      refine sk hK rfl rfl rfl fun a hK => ?_
      refine sk hK rfl rfl rfl fun a hK => ?_
      iterate 2 (refine s1 hK rfl rfl rfl rfl fun a hK => ?_)
      refine sk hK rfl rfl rfl fun a hK => ?_
      refine sk hK rfl rfl rfl fun a hK => ?_
      refine sk hK rfl rfl rfl fun a hK => ?_
      iterate 2 (refine s1 hK rfl rfl rfl rfl fun a hK => ?_)
      refine wpList_nil (nm_then ?_)
      refine wp_ret ?_
      have h := Option.some.inj h
      subst h
      exact finR1 hK rfl (RV.tmp hK rfl) ⟨rfl, hM.ext⟩
  · have h := bif_f hb9 h
    have hK := hK.re (d := 6) rfl (congrArg Value.bool hb9)
    refine sk hK rfl rfl rfl fun a hK => ?_
    refine sk hK rfl rfl rfl fun a hK => ?_
    refine sk hK rfl rfl rfl fun a hK => ?_
    iterate 2 (refine s1 hK rfl rfl rfl rfl fun a hK => ?_)
    refine sk hK rfl rfl rfl fun a hK => ?_
    refine sk hK rfl rfl rfl fun a hK => ?_
    refine sk hK rfl rfl rfl fun a hK => ?_
    iterate 2 (refine s1 hK rfl rfl rfl rfl fun a hK => ?_)
    refine sk hK rfl rfl rfl fun a hK => ?_
    refine sk hK rfl rfl rfl fun a hK => ?_
    refine sk hK rfl rfl rfl fun a hK => ?_
    iterate 2 (refine s1 hK rfl rfl rfl rfl fun a hK => ?_)
    refine wpList_nil (nm_then ?_)
    refine wp_ret ?_
    have h := Option.some.inj h
    subst h
    exact finR1 hK rfl (RV.tmp hK rfl) ⟨rfl, hM.ext⟩

theorem c_spec_l2Id (fu : Nat) {w0 : World} (x1 : Int)  {r : Bool}
    (h : d_spec_l2Id fu x1 = some r) :
    Calls Tryz.prog 175 #[.int .i64 (x1)] w0 fun e w => e = .returned (.bool (r)) ∧ Ext [] w0 w := by
  refine enter (vs := [_]) Tryz.func175 rfl Tryz.ntmps175 rfl fun a hK => ?_
  have hM := St.start w0
  unfold d_spec_l2Id at h
  refine wp_seq ?_
  refine wp_region_lit ?_
  refine s1 hK rfl rfl rfl rfl fun a hK => ?_
  refine wpList_nil (nm_then ?_)
  refine wp_seq ?_
  refine wp_region_lit ?_
  refine s1 hK rfl rfl rfl rfl fun a hK => ?_
  obtain ⟨x2, hx3, h⟩ := obind_some h
  refine s_call hK Tryz.call136 rfl rfl rfl rfl rfl (c_spec_l1In fu _ _ _  hx3) fun e4 w5 hR => ?_
  obtain ⟨rfl, hE⟩ := hR
  refine ⟨_, rfl, fun a hK => ?_⟩
  have hM := hM.step hE
  refine s1 hK rfl rfl rfl rfl fun a hK => ?_
  refine wpList_nil (nm_then ?_)
  refine wp_ret ?_
  have h := Option.some.inj h
  subst h
  exact finR1 hK rfl (RV.tmp hK rfl) ⟨rfl, hM.ext⟩

theorem c_spec_TypeOk (fu : Nat) {w0 : World} (x1 : Typ)  {r : Bool}
    (h : d_spec_TypeOk fu x1 = some r) :
    Calls Tryz.prog 176 #[.agg (Flat.e (x1)).toArray] w0 fun e w => e = .returned (.bool (r)) ∧ Ext [] w0 w := by
  refine enter (vs := [_]) Tryz.func176 rfl Tryz.ntmps176 rfl fun a hK => ?_
  have hM := St.start w0
  unfold d_spec_TypeOk at h
  refine wp_seq ?_
  refine wp_region_lit ?_
  refine s_box (cs := [.int .i64 (x1.fId), .int .i64 (x1.fW), .int .i64 (x1.fH), .int .i64 (x1.fD), .int .i64 (x1.fTare), .int .i64 (x1.fGram), .int .i64 (x1.fCost)]) hM hK rfl rfl rfl rfl rfl rfl fun b2 w4 a hK hM hE hb3 => ?_
  refine s1 hK rfl rfl rfl rfl fun a hK => ?_
  refine wpList_nil (nm_then ?_)
  refine wp_seq ?_
  refine wp_region_lit ?_
  refine s_val hK rfl rfl rfl (r_fa fa92_0 hK rfl rfl) fun a hK => ?_
  refine s_val hK rfl rfl rfl (r_ldb t13 hM 0 hb3 0 hK rfl rfl rfl rfl rfl) fun a hK => ?_
  obtain ⟨x5, hx6, h⟩ := obind_some h
  refine s_call hK Tryz.call175 rfl rfl rfl rfl rfl (c_spec_l2Id fu _  hx6) fun e7 w8 hR => ?_
  obtain ⟨rfl, hE⟩ := hR
  refine ⟨_, rfl, fun a hK => ?_⟩
  have hM := hM.step hE
  refine s1 hK rfl rfl rfl rfl fun a hK => ?_
  refine bsplit (x5) (fun hb9 => ?_) (fun hb9 => ?_)
  · have h := bif_t hb9 h
    have hK := hK.re (d := 6) rfl (congrArg Value.bool hb9)
    refine s_val hK rfl rfl rfl (r_fa fa92_1 hK rfl rfl) fun a hK => ?_
    refine s_val hK rfl rfl rfl (r_ldb t13 hM 0 hb3 1 hK rfl rfl rfl rfl rfl) fun a hK => ?_
    obtain ⟨x10, hx11, h⟩ := obind_some h
    refine s_call hK Tryz.call197 rfl rfl rfl rfl rfl (c_spec_l2Side fu _  hx11) fun e12 w13 hR => ?_
    obtain ⟨rfl, hE⟩ := hR
    refine ⟨_, rfl, fun a hK => ?_⟩
    have hM := hM.step hE
    iterate 2 (refine s1 hK rfl rfl rfl rfl fun a hK => ?_)
    refine bsplit (x10) (fun hb14 => ?_) (fun hb14 => ?_)
    · have h := bif_t hb14 h
      have hK := hK.re (d := 11) rfl (congrArg Value.bool hb14)
      refine s_val hK rfl rfl rfl (r_fa fa92_2 hK rfl rfl) fun a hK => ?_
      refine s_val hK rfl rfl rfl (r_ldb t13 hM 0 hb3 2 hK rfl rfl rfl rfl rfl) fun a hK => ?_
      obtain ⟨x15, hx16, h⟩ := obind_some h
      refine s_call hK Tryz.call197 rfl rfl rfl rfl rfl (c_spec_l2Side fu _  hx16) fun e17 w18 hR => ?_
      obtain ⟨rfl, hE⟩ := hR
      refine ⟨_, rfl, fun a hK => ?_⟩
      have hM := hM.step hE
      iterate 2 (refine s1 hK rfl rfl rfl rfl fun a hK => ?_)
      refine bsplit (x15) (fun hb19 => ?_) (fun hb19 => ?_)
      · have h := bif_t hb19 h
        have hK := hK.re (d := 16) rfl (congrArg Value.bool hb19)
        refine s_val hK rfl rfl rfl (r_fa fa92_3 hK rfl rfl) fun a hK => ?_
        refine s_val hK rfl rfl rfl (r_ldb t13 hM 0 hb3 3 hK rfl rfl rfl rfl rfl) fun a hK => ?_
        obtain ⟨x20, hx21, h⟩ := obind_some h
        refine s_call hK Tryz.call197 rfl rfl rfl rfl rfl (c_spec_l2Side fu _  hx21) fun e22 w23 hR => ?_
        obtain ⟨rfl, hE⟩ := hR
        refine ⟨_, rfl, fun a hK => ?_⟩
        have hM := hM.step hE
        iterate 2 (refine s1 hK rfl rfl rfl rfl fun a hK => ?_)
        refine bsplit (x20) (fun hb24 => ?_) (fun hb24 => ?_)
        · have h := bif_t hb24 h
          have hK := hK.re (d := 21) rfl (congrArg Value.bool hb24)
          refine s_val hK rfl rfl rfl (r_fa fa92_4 hK rfl rfl) fun a hK => ?_
          refine s_val hK rfl rfl rfl (r_ldb t13 hM 0 hb3 4 hK rfl rfl rfl rfl rfl) fun a hK => ?_
          obtain ⟨x25, hx26, h⟩ := obind_some h
          refine s_call hK Tryz.call136 rfl rfl rfl rfl rfl (c_spec_l1In fu _ _ _  hx26) fun e27 w28 hR => ?_
          obtain ⟨rfl, hE⟩ := hR
          refine ⟨_, rfl, fun a hK => ?_⟩
          have hM := hM.step hE
          iterate 2 (refine s1 hK rfl rfl rfl rfl fun a hK => ?_)
          refine bsplit (x25) (fun hb29 => ?_) (fun hb29 => ?_)
          · have h := bif_t hb29 h
            have hK := hK.re (d := 26) rfl (congrArg Value.bool hb29)
            refine s_val hK rfl rfl rfl (r_fa fa92_5 hK rfl rfl) fun a hK => ?_
            refine s_val hK rfl rfl rfl (r_ldb t13 hM 0 hb3 5 hK rfl rfl rfl rfl rfl) fun a hK => ?_
            obtain ⟨x30, hx31, h⟩ := obind_some h
            refine s_call hK Tryz.call136 rfl rfl rfl rfl rfl (c_spec_l1In fu _ _ _  hx31) fun e32 w33 hR => ?_
            obtain ⟨rfl, hE⟩ := hR
            refine ⟨_, rfl, fun a hK => ?_⟩
            have hM := hM.step hE
            iterate 2 (refine s1 hK rfl rfl rfl rfl fun a hK => ?_)
            refine bsplit (x30) (fun hb34 => ?_) (fun hb34 => ?_)
            · have h := bif_t hb34 h
              have hK := hK.re (d := 31) rfl (congrArg Value.bool hb34)
              refine s_val hK rfl rfl rfl (r_fa fa92_6 hK rfl rfl) fun a hK => ?_
              refine s_val hK rfl rfl rfl (r_ldb t13 hM 0 hb3 6 hK rfl rfl rfl rfl rfl) fun a hK => ?_
              obtain ⟨x35, hx36, h⟩ := obind_some h
              refine s_call hK Tryz.call136 rfl rfl rfl rfl rfl (c_spec_l1In fu _ _ _  hx36) fun e37 w38 hR => ?_
              obtain ⟨rfl, hE⟩ := hR
              refine ⟨_, rfl, fun a hK => ?_⟩
              have hM := hM.step hE
              iterate 2 (refine s1 hK rfl rfl rfl rfl fun a hK => ?_)
              have hK := hK.keep [2] rfl
              refine wpList_nil (nm_then ?_)
              refine wp_ret ?_
              have h := Option.some.inj h
              subst h
              exact finR1 hK rfl (RV.tmp hK rfl) ⟨rfl, hM.ext⟩
            · have h := bif_f hb34 h
              have hK := hK.re (d := 31) rfl (congrArg Value.bool hb34)
              refine sk hK rfl rfl rfl fun a hK => ?_
              refine sk hK rfl rfl rfl fun a hK => ?_
              refine sk hK rfl rfl rfl fun a hK => ?_
              iterate 2 (refine s1 hK rfl rfl rfl rfl fun a hK => ?_)
              have hK := hK.keep [2] rfl
              refine wpList_nil (nm_then ?_)
              refine wp_ret ?_
              have h := Option.some.inj h
              subst h
              exact finR1 hK rfl (RV.tmp hK rfl) ⟨rfl, hM.ext⟩
          · have h := bif_f hb29 h
            have hK := hK.re (d := 26) rfl (congrArg Value.bool hb29)
            refine sk hK rfl rfl rfl fun a hK => ?_
            refine sk hK rfl rfl rfl fun a hK => ?_
            refine sk hK rfl rfl rfl fun a hK => ?_
            iterate 2 (refine s1 hK rfl rfl rfl rfl fun a hK => ?_)
            refine sk hK rfl rfl rfl fun a hK => ?_
            refine sk hK rfl rfl rfl fun a hK => ?_
            refine sk hK rfl rfl rfl fun a hK => ?_
            iterate 2 (refine s1 hK rfl rfl rfl rfl fun a hK => ?_)
            have hK := hK.keep [2] rfl
            refine wpList_nil (nm_then ?_)
            refine wp_ret ?_
            have h := Option.some.inj h
            subst h
            exact finR1 hK rfl (RV.tmp hK rfl) ⟨rfl, hM.ext⟩
        · have h := bif_f hb24 h
          have hK := hK.re (d := 21) rfl (congrArg Value.bool hb24)
          refine sk hK rfl rfl rfl fun a hK => ?_
          refine sk hK rfl rfl rfl fun a hK => ?_
          refine sk hK rfl rfl rfl fun a hK => ?_
          iterate 2 (refine s1 hK rfl rfl rfl rfl fun a hK => ?_)
          refine sk hK rfl rfl rfl fun a hK => ?_
          refine sk hK rfl rfl rfl fun a hK => ?_
          refine sk hK rfl rfl rfl fun a hK => ?_
          iterate 2 (refine s1 hK rfl rfl rfl rfl fun a hK => ?_)
          refine sk hK rfl rfl rfl fun a hK => ?_
          refine sk hK rfl rfl rfl fun a hK => ?_
          refine sk hK rfl rfl rfl fun a hK => ?_
          iterate 2 (refine s1 hK rfl rfl rfl rfl fun a hK => ?_)
          have hK := hK.keep [2] rfl
          refine wpList_nil (nm_then ?_)
          refine wp_ret ?_
          have h := Option.some.inj h
          subst h
          exact finR1 hK rfl (RV.tmp hK rfl) ⟨rfl, hM.ext⟩
      · have h := bif_f hb19 h
        have hK := hK.re (d := 16) rfl (congrArg Value.bool hb19)
        refine sk hK rfl rfl rfl fun a hK => ?_
        refine sk hK rfl rfl rfl fun a hK => ?_
        refine sk hK rfl rfl rfl fun a hK => ?_
        iterate 2 (refine s1 hK rfl rfl rfl rfl fun a hK => ?_)
        refine sk hK rfl rfl rfl fun a hK => ?_
        refine sk hK rfl rfl rfl fun a hK => ?_
        refine sk hK rfl rfl rfl fun a hK => ?_
        iterate 2 (refine s1 hK rfl rfl rfl rfl fun a hK => ?_)
        refine sk hK rfl rfl rfl fun a hK => ?_
        refine sk hK rfl rfl rfl fun a hK => ?_
        refine sk hK rfl rfl rfl fun a hK => ?_
        iterate 2 (refine s1 hK rfl rfl rfl rfl fun a hK => ?_)
        refine sk hK rfl rfl rfl fun a hK => ?_
        refine sk hK rfl rfl rfl fun a hK => ?_
        refine sk hK rfl rfl rfl fun a hK => ?_
        iterate 2 (refine s1 hK rfl rfl rfl rfl fun a hK => ?_)
        have hK := hK.keep [2] rfl
        refine wpList_nil (nm_then ?_)
        refine wp_ret ?_
        have h := Option.some.inj h
        subst h
        exact finR1 hK rfl (RV.tmp hK rfl) ⟨rfl, hM.ext⟩
    · have h := bif_f hb14 h
      have hK := hK.re (d := 11) rfl (congrArg Value.bool hb14)
      refine sk hK rfl rfl rfl fun a hK => ?_
      refine sk hK rfl rfl rfl fun a hK => ?_
      refine sk hK rfl rfl rfl fun a hK => ?_
      iterate 2 (refine s1 hK rfl rfl rfl rfl fun a hK => ?_)
      refine sk hK rfl rfl rfl fun a hK => ?_
      refine sk hK rfl rfl rfl fun a hK => ?_
      refine sk hK rfl rfl rfl fun a hK => ?_
      iterate 2 (refine s1 hK rfl rfl rfl rfl fun a hK => ?_)
      refine sk hK rfl rfl rfl fun a hK => ?_
      refine sk hK rfl rfl rfl fun a hK => ?_
      refine sk hK rfl rfl rfl fun a hK => ?_
      iterate 2 (refine s1 hK rfl rfl rfl rfl fun a hK => ?_)
      refine sk hK rfl rfl rfl fun a hK => ?_
      refine sk hK rfl rfl rfl fun a hK => ?_
      refine sk hK rfl rfl rfl fun a hK => ?_
      iterate 2 (refine s1 hK rfl rfl rfl rfl fun a hK => ?_)
      refine sk hK rfl rfl rfl fun a hK => ?_
      refine sk hK rfl rfl rfl fun a hK => ?_
      refine sk hK rfl rfl rfl fun a hK => ?_
      iterate 2 (refine s1 hK rfl rfl rfl rfl fun a hK => ?_)
      have hK := hK.keep [2] rfl
      refine wpList_nil (nm_then ?_)
      refine wp_ret ?_
      have h := Option.some.inj h
      subst h
      exact finR1 hK rfl (RV.tmp hK rfl) ⟨rfl, hM.ext⟩
  · have h := bif_f hb9 h
    have hK := hK.re (d := 6) rfl (congrArg Value.bool hb9)
    refine sk hK rfl rfl rfl fun a hK => ?_
    refine sk hK rfl rfl rfl fun a hK => ?_
    refine sk hK rfl rfl rfl fun a hK => ?_
    iterate 2 (refine s1 hK rfl rfl rfl rfl fun a hK => ?_)
    refine sk hK rfl rfl rfl fun a hK => ?_
    refine sk hK rfl rfl rfl fun a hK => ?_
    refine sk hK rfl rfl rfl fun a hK => ?_
    iterate 2 (refine s1 hK rfl rfl rfl rfl fun a hK => ?_)
    refine sk hK rfl rfl rfl fun a hK => ?_
    refine sk hK rfl rfl rfl fun a hK => ?_
    refine sk hK rfl rfl rfl fun a hK => ?_
    iterate 2 (refine s1 hK rfl rfl rfl rfl fun a hK => ?_)
    refine sk hK rfl rfl rfl fun a hK => ?_
    refine sk hK rfl rfl rfl fun a hK => ?_
    refine sk hK rfl rfl rfl fun a hK => ?_
    iterate 2 (refine s1 hK rfl rfl rfl rfl fun a hK => ?_)
    refine sk hK rfl rfl rfl fun a hK => ?_
    refine sk hK rfl rfl rfl fun a hK => ?_
    refine sk hK rfl rfl rfl fun a hK => ?_
    iterate 2 (refine s1 hK rfl rfl rfl rfl fun a hK => ?_)
    refine sk hK rfl rfl rfl fun a hK => ?_
    refine sk hK rfl rfl rfl fun a hK => ?_
    refine sk hK rfl rfl rfl fun a hK => ?_
    iterate 2 (refine s1 hK rfl rfl rfl rfl fun a hK => ?_)
    have hK := hK.keep [2] rfl
    refine wpList_nil (nm_then ?_)
    refine wp_ret ?_
    have h := Option.some.inj h
    subst h
    exact finR1 hK rfl (RV.tmp hK rfl) ⟨rfl, hM.ext⟩

theorem c_spec_ItemOk (fu : Nat) {w0 : World} (x1 : Item)  {r : Bool}
    (h : d_spec_ItemOk fu x1 = some r) :
    Calls Tryz.prog 177 #[.agg (Flat.e (x1)).toArray] w0 fun e w => e = .returned (.bool (r)) ∧ Ext [] w0 w := by
  refine enter (vs := [_]) Tryz.func177 rfl Tryz.ntmps177 rfl fun a hK => ?_
  have hM := St.start w0
  unfold d_spec_ItemOk at h
  refine wp_seq ?_
  refine wp_region_lit ?_
  refine s_box (cs := [.int .i64 (x1.fId), .int .i64 (x1.fW), .int .i64 (x1.fH), .int .i64 (x1.fD), .int .i64 (x1.fGram), .int .i64 (x1.fClass), .int .i64 (x1.fCount)]) hM hK rfl rfl rfl rfl rfl rfl fun b2 w4 a hK hM hE hb3 => ?_
  refine s1 hK rfl rfl rfl rfl fun a hK => ?_
  refine wpList_nil (nm_then ?_)
  refine wp_seq ?_
  refine wp_region_lit ?_
  refine s_val hK rfl rfl rfl (r_fa fa120_0 hK rfl rfl) fun a hK => ?_
  refine s_val hK rfl rfl rfl (r_ldb t13 hM 0 hb3 0 hK rfl rfl rfl rfl rfl) fun a hK => ?_
  obtain ⟨x5, hx6, h⟩ := obind_some h
  refine s_call hK Tryz.call175 rfl rfl rfl rfl rfl (c_spec_l2Id fu _  hx6) fun e7 w8 hR => ?_
  obtain ⟨rfl, hE⟩ := hR
  refine ⟨_, rfl, fun a hK => ?_⟩
  have hM := hM.step hE
  refine s1 hK rfl rfl rfl rfl fun a hK => ?_
  refine bsplit (x5) (fun hb9 => ?_) (fun hb9 => ?_)
  · have h := bif_t hb9 h
    have hK := hK.re (d := 6) rfl (congrArg Value.bool hb9)
    refine s_val hK rfl rfl rfl (r_fa fa120_1 hK rfl rfl) fun a hK => ?_
    refine s_val hK rfl rfl rfl (r_ldb t13 hM 0 hb3 1 hK rfl rfl rfl rfl rfl) fun a hK => ?_
    obtain ⟨x10, hx11, h⟩ := obind_some h
    refine s_call hK Tryz.call197 rfl rfl rfl rfl rfl (c_spec_l2Side fu _  hx11) fun e12 w13 hR => ?_
    obtain ⟨rfl, hE⟩ := hR
    refine ⟨_, rfl, fun a hK => ?_⟩
    have hM := hM.step hE
    iterate 2 (refine s1 hK rfl rfl rfl rfl fun a hK => ?_)
    refine bsplit (x10) (fun hb14 => ?_) (fun hb14 => ?_)
    · have h := bif_t hb14 h
      have hK := hK.re (d := 11) rfl (congrArg Value.bool hb14)
      refine s_val hK rfl rfl rfl (r_fa fa120_2 hK rfl rfl) fun a hK => ?_
      refine s_val hK rfl rfl rfl (r_ldb t13 hM 0 hb3 2 hK rfl rfl rfl rfl rfl) fun a hK => ?_
      obtain ⟨x15, hx16, h⟩ := obind_some h
      refine s_call hK Tryz.call197 rfl rfl rfl rfl rfl (c_spec_l2Side fu _  hx16) fun e17 w18 hR => ?_
      obtain ⟨rfl, hE⟩ := hR
      refine ⟨_, rfl, fun a hK => ?_⟩
      have hM := hM.step hE
      iterate 2 (refine s1 hK rfl rfl rfl rfl fun a hK => ?_)
      refine bsplit (x15) (fun hb19 => ?_) (fun hb19 => ?_)
      · have h := bif_t hb19 h
        have hK := hK.re (d := 16) rfl (congrArg Value.bool hb19)
        refine s_val hK rfl rfl rfl (r_fa fa120_3 hK rfl rfl) fun a hK => ?_
        refine s_val hK rfl rfl rfl (r_ldb t13 hM 0 hb3 3 hK rfl rfl rfl rfl rfl) fun a hK => ?_
        obtain ⟨x20, hx21, h⟩ := obind_some h
        refine s_call hK Tryz.call197 rfl rfl rfl rfl rfl (c_spec_l2Side fu _  hx21) fun e22 w23 hR => ?_
        obtain ⟨rfl, hE⟩ := hR
        refine ⟨_, rfl, fun a hK => ?_⟩
        have hM := hM.step hE
        iterate 2 (refine s1 hK rfl rfl rfl rfl fun a hK => ?_)
        refine bsplit (x20) (fun hb24 => ?_) (fun hb24 => ?_)
        · have h := bif_t hb24 h
          have hK := hK.re (d := 21) rfl (congrArg Value.bool hb24)
          refine s_val hK rfl rfl rfl (r_fa fa120_4 hK rfl rfl) fun a hK => ?_
          refine s_val hK rfl rfl rfl (r_ldb t13 hM 0 hb3 4 hK rfl rfl rfl rfl rfl) fun a hK => ?_
          obtain ⟨x25, hx26, h⟩ := obind_some h
          refine s_call hK Tryz.call136 rfl rfl rfl rfl rfl (c_spec_l1In fu _ _ _  hx26) fun e27 w28 hR => ?_
          obtain ⟨rfl, hE⟩ := hR
          refine ⟨_, rfl, fun a hK => ?_⟩
          have hM := hM.step hE
          iterate 2 (refine s1 hK rfl rfl rfl rfl fun a hK => ?_)
          refine bsplit (x25) (fun hb29 => ?_) (fun hb29 => ?_)
          · have h := bif_t hb29 h
            have hK := hK.re (d := 26) rfl (congrArg Value.bool hb29)
            refine s_val hK rfl rfl rfl (r_fa fa120_5 hK rfl rfl) fun a hK => ?_
            refine s_val hK rfl rfl rfl (r_ldb t13 hM 0 hb3 5 hK rfl rfl rfl rfl rfl) fun a hK => ?_
            obtain ⟨x30, hx31, h⟩ := obind_some h
            refine s_call hK Tryz.call136 rfl rfl rfl rfl rfl (c_spec_l1In fu _ _ _  hx31) fun e32 w33 hR => ?_
            obtain ⟨rfl, hE⟩ := hR
            refine ⟨_, rfl, fun a hK => ?_⟩
            have hM := hM.step hE
            iterate 2 (refine s1 hK rfl rfl rfl rfl fun a hK => ?_)
            refine bsplit (x30) (fun hb34 => ?_) (fun hb34 => ?_)
            · have h := bif_t hb34 h
              have hK := hK.re (d := 31) rfl (congrArg Value.bool hb34)
              refine s_val hK rfl rfl rfl (r_fa fa120_6 hK rfl rfl) fun a hK => ?_
              refine s_val hK rfl rfl rfl (r_ldb t13 hM 0 hb3 6 hK rfl rfl rfl rfl rfl) fun a hK => ?_
              obtain ⟨x35, hx36, h⟩ := obind_some h
              refine s_call hK Tryz.call136 rfl rfl rfl rfl rfl (c_spec_l1In fu _ _ _  hx36) fun e37 w38 hR => ?_
              obtain ⟨rfl, hE⟩ := hR
              refine ⟨_, rfl, fun a hK => ?_⟩
              have hM := hM.step hE
              iterate 2 (refine s1 hK rfl rfl rfl rfl fun a hK => ?_)
              have hK := hK.keep [2] rfl
              refine wpList_nil (nm_then ?_)
              refine wp_ret ?_
              have h := Option.some.inj h
              subst h
              exact finR1 hK rfl (RV.tmp hK rfl) ⟨rfl, hM.ext⟩
            · have h := bif_f hb34 h
              have hK := hK.re (d := 31) rfl (congrArg Value.bool hb34)
              refine sk hK rfl rfl rfl fun a hK => ?_
              refine sk hK rfl rfl rfl fun a hK => ?_
              refine sk hK rfl rfl rfl fun a hK => ?_
              iterate 2 (refine s1 hK rfl rfl rfl rfl fun a hK => ?_)
              have hK := hK.keep [2] rfl
              refine wpList_nil (nm_then ?_)
              refine wp_ret ?_
              have h := Option.some.inj h
              subst h
              exact finR1 hK rfl (RV.tmp hK rfl) ⟨rfl, hM.ext⟩
          · have h := bif_f hb29 h
            have hK := hK.re (d := 26) rfl (congrArg Value.bool hb29)
            refine sk hK rfl rfl rfl fun a hK => ?_
            refine sk hK rfl rfl rfl fun a hK => ?_
            refine sk hK rfl rfl rfl fun a hK => ?_
            iterate 2 (refine s1 hK rfl rfl rfl rfl fun a hK => ?_)
            refine sk hK rfl rfl rfl fun a hK => ?_
            refine sk hK rfl rfl rfl fun a hK => ?_
            refine sk hK rfl rfl rfl fun a hK => ?_
            iterate 2 (refine s1 hK rfl rfl rfl rfl fun a hK => ?_)
            have hK := hK.keep [2] rfl
            refine wpList_nil (nm_then ?_)
            refine wp_ret ?_
            have h := Option.some.inj h
            subst h
            exact finR1 hK rfl (RV.tmp hK rfl) ⟨rfl, hM.ext⟩
        · have h := bif_f hb24 h
          have hK := hK.re (d := 21) rfl (congrArg Value.bool hb24)
          refine sk hK rfl rfl rfl fun a hK => ?_
          refine sk hK rfl rfl rfl fun a hK => ?_
          refine sk hK rfl rfl rfl fun a hK => ?_
          iterate 2 (refine s1 hK rfl rfl rfl rfl fun a hK => ?_)
          refine sk hK rfl rfl rfl fun a hK => ?_
          refine sk hK rfl rfl rfl fun a hK => ?_
          refine sk hK rfl rfl rfl fun a hK => ?_
          iterate 2 (refine s1 hK rfl rfl rfl rfl fun a hK => ?_)
          refine sk hK rfl rfl rfl fun a hK => ?_
          refine sk hK rfl rfl rfl fun a hK => ?_
          refine sk hK rfl rfl rfl fun a hK => ?_
          iterate 2 (refine s1 hK rfl rfl rfl rfl fun a hK => ?_)
          have hK := hK.keep [2] rfl
          refine wpList_nil (nm_then ?_)
          refine wp_ret ?_
          have h := Option.some.inj h
          subst h
          exact finR1 hK rfl (RV.tmp hK rfl) ⟨rfl, hM.ext⟩
      · have h := bif_f hb19 h
        have hK := hK.re (d := 16) rfl (congrArg Value.bool hb19)
        refine sk hK rfl rfl rfl fun a hK => ?_
        refine sk hK rfl rfl rfl fun a hK => ?_
        refine sk hK rfl rfl rfl fun a hK => ?_
        iterate 2 (refine s1 hK rfl rfl rfl rfl fun a hK => ?_)
        refine sk hK rfl rfl rfl fun a hK => ?_
        refine sk hK rfl rfl rfl fun a hK => ?_
        refine sk hK rfl rfl rfl fun a hK => ?_
        iterate 2 (refine s1 hK rfl rfl rfl rfl fun a hK => ?_)
        refine sk hK rfl rfl rfl fun a hK => ?_
        refine sk hK rfl rfl rfl fun a hK => ?_
        refine sk hK rfl rfl rfl fun a hK => ?_
        iterate 2 (refine s1 hK rfl rfl rfl rfl fun a hK => ?_)
        refine sk hK rfl rfl rfl fun a hK => ?_
        refine sk hK rfl rfl rfl fun a hK => ?_
        refine sk hK rfl rfl rfl fun a hK => ?_
        iterate 2 (refine s1 hK rfl rfl rfl rfl fun a hK => ?_)
        have hK := hK.keep [2] rfl
        refine wpList_nil (nm_then ?_)
        refine wp_ret ?_
        have h := Option.some.inj h
        subst h
        exact finR1 hK rfl (RV.tmp hK rfl) ⟨rfl, hM.ext⟩
    · have h := bif_f hb14 h
      have hK := hK.re (d := 11) rfl (congrArg Value.bool hb14)
      refine sk hK rfl rfl rfl fun a hK => ?_
      refine sk hK rfl rfl rfl fun a hK => ?_
      refine sk hK rfl rfl rfl fun a hK => ?_
      iterate 2 (refine s1 hK rfl rfl rfl rfl fun a hK => ?_)
      refine sk hK rfl rfl rfl fun a hK => ?_
      refine sk hK rfl rfl rfl fun a hK => ?_
      refine sk hK rfl rfl rfl fun a hK => ?_
      iterate 2 (refine s1 hK rfl rfl rfl rfl fun a hK => ?_)
      refine sk hK rfl rfl rfl fun a hK => ?_
      refine sk hK rfl rfl rfl fun a hK => ?_
      refine sk hK rfl rfl rfl fun a hK => ?_
      iterate 2 (refine s1 hK rfl rfl rfl rfl fun a hK => ?_)
      refine sk hK rfl rfl rfl fun a hK => ?_
      refine sk hK rfl rfl rfl fun a hK => ?_
      refine sk hK rfl rfl rfl fun a hK => ?_
      iterate 2 (refine s1 hK rfl rfl rfl rfl fun a hK => ?_)
      refine sk hK rfl rfl rfl fun a hK => ?_
      refine sk hK rfl rfl rfl fun a hK => ?_
      refine sk hK rfl rfl rfl fun a hK => ?_
      iterate 2 (refine s1 hK rfl rfl rfl rfl fun a hK => ?_)
      have hK := hK.keep [2] rfl
      refine wpList_nil (nm_then ?_)
      refine wp_ret ?_
      have h := Option.some.inj h
      subst h
      exact finR1 hK rfl (RV.tmp hK rfl) ⟨rfl, hM.ext⟩
  · have h := bif_f hb9 h
    have hK := hK.re (d := 6) rfl (congrArg Value.bool hb9)
    refine sk hK rfl rfl rfl fun a hK => ?_
    refine sk hK rfl rfl rfl fun a hK => ?_
    refine sk hK rfl rfl rfl fun a hK => ?_
    iterate 2 (refine s1 hK rfl rfl rfl rfl fun a hK => ?_)
    refine sk hK rfl rfl rfl fun a hK => ?_
    refine sk hK rfl rfl rfl fun a hK => ?_
    refine sk hK rfl rfl rfl fun a hK => ?_
    iterate 2 (refine s1 hK rfl rfl rfl rfl fun a hK => ?_)
    refine sk hK rfl rfl rfl fun a hK => ?_
    refine sk hK rfl rfl rfl fun a hK => ?_
    refine sk hK rfl rfl rfl fun a hK => ?_
    iterate 2 (refine s1 hK rfl rfl rfl rfl fun a hK => ?_)
    refine sk hK rfl rfl rfl fun a hK => ?_
    refine sk hK rfl rfl rfl fun a hK => ?_
    refine sk hK rfl rfl rfl fun a hK => ?_
    iterate 2 (refine s1 hK rfl rfl rfl rfl fun a hK => ?_)
    refine sk hK rfl rfl rfl fun a hK => ?_
    refine sk hK rfl rfl rfl fun a hK => ?_
    refine sk hK rfl rfl rfl fun a hK => ?_
    iterate 2 (refine s1 hK rfl rfl rfl rfl fun a hK => ?_)
    refine sk hK rfl rfl rfl fun a hK => ?_
    refine sk hK rfl rfl rfl fun a hK => ?_
    refine sk hK rfl rfl rfl fun a hK => ?_
    iterate 2 (refine s1 hK rfl rfl rfl rfl fun a hK => ?_)
    have hK := hK.keep [2] rfl
    refine wpList_nil (nm_then ?_)
    refine wp_ret ?_
    have h := Option.some.inj h
    subst h
    exact finR1 hK rfl (RV.tmp hK rfl) ⟨rfl, hM.ext⟩

theorem c_spec_BoundsOk (fu : Nat) {w0 : World} (r1 : Request) {cs2 : List Value} {F3 : List Nat} (hp4 : rd w0 F3 cs2 r1) {r : Bool}
    (h : d_spec_BoundsOk fu r1 = some r) :
    Calls Tryz.prog 132 #[.agg cs2.toArray] w0 fun e w => e = .returned (.bool (r)) ∧ Ext [] w0 w := by
  refine enter (vs := [_]) Tryz.func132 rfl Tryz.ntmps132 rfl fun a hK => ?_
  have hM := St.start w0
  obtain ⟨v5, F6, v7, F8, v9, F10, rfl, rfl, hf11, hf12, hf13⟩ := hp4
  unfold d_spec_BoundsOk at h
  refine wp_seq ?_
  refine wp_region_lit ?_
  refine s_box (cs := [.int .i64 (r1.fWay), .int .i64 (r1.fPallet.fW), .int .i64 (r1.fPallet.fD), .int .i64 (r1.fPallet.fH), .int .i64 (r1.fPallet.fGram), .int .i64 (r1.fClasses), v5, v7, .int .i64 (r1.fMaster), v9]) hM hK rfl rfl rfl rfl rfl rfl fun b14 w16 a hK hM hE hb15 => ?_
  refine s1 hK rfl rfl rfl rfl fun a hK => ?_
  refine wpList_nil (nm_then ?_)
  refine c_cut (fun a w => K 111 [(1, .pointer (some (⟨b14, 0, none⟩ : Addr)))] a ∧ St [] w0 w [([b14], w16)] ∧ d_spec_BoundsOk_J2 fu r1 = some r) ?_ ?_
  · rintro a w44 ⟨hK, hM, h⟩
    unfold d_spec_BoundsOk_J2 at h
    refine wp_seq ?_
    refine wp_seq ?_
    refine wp_region_lit ?_
    refine s1 hK rfl rfl rfl rfl fun a hK => ?_
    refine wpList_nil (nm_then ?_)
    refine wp_block ?_
    refine c_loop (fun n a w => ∃ (i109 : Int), K 111 [(1, .pointer (some (⟨b14, 0, none⟩ : Addr))), (3, .int .i64 (i109))] a ∧ St [] w0 w [([b14], w16)] ∧ d_spec_BoundsOk_L3 fu r1 n i109 = some r) ?_ ?_ fu _ _ ?_
    · rintro a w ⟨_, _, _, h⟩
      cases (show none = some _ from h)
    · rintro m110 a w108 ⟨i109, hK, hM, h⟩
      rw [d_spec_BoundsOk_L3_s] at h
      unfold d_spec_BoundsOk_L3_B at h
      refine wp_seq ?_
      refine wp_seq ?_
      refine wp_region_lit ?_
      refine s1 hK rfl rfl rfl rfl fun a hK => ?_
      refine s_val hK rfl rfl rfl (r_fa fa40_3 hK rfl rfl) fun a hK => ?_
      refine s_val hK rfl rfl rfl (r_ldb t136 hM 0 hb15 6 hK rfl rfl rfl rfl rfl) fun a hK => ?_
      refine s_val hK rfl rfl rfl (r_len (α := Pair) hf11 hK Tryz.underlying36 rfl rfl) fun a hK => ?_
      refine s1 hK rfl rfl rfl rfl fun a hK => ?_
      refine wpList_nil (nm_then ?_)
      refine c_cond (b := decide (i109 < ((r1.fPairs.length : Int)))) hK rfl (fun hb111 => ?_) (fun hb111 => ?_)
      · have h := bif_t hb111 h
        refine wp_skip (nm_then ?_)
        refine c_cut (fun a w => K 111 [(1, .pointer (some (⟨b14, 0, none⟩ : Addr))), (3, .int .i64 (i109))] a ∧ St [] w0 w [([b14], w16)] ∧ d_spec_BoundsOk_J1 fu (d_spec_BoundsOk_L3 fu r1 m110) i109 = some r) ?_ ?_
        · rintro a w126 ⟨hK, hM, h⟩
          unfold d_spec_BoundsOk_J1 at h
          refine wp_region_lit ?_
          iterate 3 (refine s1 hK rfl rfl rfl rfl fun a hK => ?_)
          refine wpList_nil (nm_then ?_)
          exact ⟨w64 (i109 + 1), hK.keep [1, 3] rfl, hM.sel [0] rfl (by decide), h⟩
        · refine wp_block ?_
          refine wp_seq ?_
          refine wp_region_lit ?_
          refine s_val hK rfl rfl rfl (r_fa fa40_3 hK rfl rfl) fun a hK => ?_
          refine s_val hK rfl rfl rfl (r_ldb t136 hM 0 hb15 6 hK rfl rfl rfl rfl rfl) fun a hK => ?_
          refine s1 hK rfl rfl rfl rfl fun a hK => ?_
          obtain ⟨x127, hx128, h⟩ := obind_some h
          refine s_val hK rfl rfl rfl (r_ixa hf11 hx128 hK ts36 rfl rfl rfl) fun a hK => ?_
          refine s_val hK rfl rfl rfl (r_fa fa144_0 hK rfl rfl) fun a hK => ?_
          refine s_val hK rfl rfl rfl (r_lde1 hf11 (hM.a00 (Enc.rd_lt hf11)) hx128 0 t13 hK rfl rfl rfl rfl) fun a hK => ?_
          obtain ⟨x129, hx130, h⟩ := obind_some h
          refine s_call hK Tryz.call136 rfl rfl rfl rfl rfl (c_spec_l1In fu _ _ _  hx130) fun e131 w132 hR => ?_
          obtain ⟨rfl, hE⟩ := hR
          refine ⟨_, rfl, fun a hK => ?_⟩
          have hM := hM.step hE
          iterate 2 (refine s1 hK rfl rfl rfl rfl fun a hK => ?_)
          refine bsplit (!x129) (fun hb133 => ?_) (fun hb133 => ?_)
          · have h := bif_t hb133 h
            have hK := hK.re (d := 63) rfl (congrArg Value.bool hb133)
            refine sk hK rfl rfl rfl fun a hK => ?_
            refine sk hK rfl rfl rfl fun a hK => ?_
            refine sk hK rfl rfl rfl fun a hK => ?_
            refine sk hK rfl rfl rfl fun a hK => ?_
            refine sk hK rfl rfl rfl fun a hK => ?_
            refine sk hK rfl rfl rfl fun a hK => ?_
            refine sk hK rfl rfl rfl fun a hK => ?_
            refine sk hK rfl rfl rfl fun a hK => ?_
            refine s1 hK rfl rfl rfl rfl fun a hK => ?_
            refine wpList_nil (nm_then ?_)
            refine wp_cond_true (hK.ev rfl) ?_
            refine wp_seq ?_
            refine wp_region_lit ?_
            refine s1 hK rfl rfl rfl rfl fun a hK => ?_
            refine wpList_nil (nm_then ?_)
            refine wp_ret (rt_block (rt_then (rt_then (rt_block (rt_then ?_)))))
            have h := Option.some.inj h
            subst h
            exact finR1 hK rfl (RV.tmp hK rfl) ⟨rfl, hM.ext⟩
          · have h := bif_f hb133 h
            have hK := hK.re (d := 63) rfl (congrArg Value.bool hb133)
            refine s_val hK rfl rfl rfl (r_fa fa40_3 hK rfl rfl) fun a hK => ?_
            refine s_val hK rfl rfl rfl (r_ldb t136 hM 0 hb15 6 hK rfl rfl rfl rfl rfl) fun a hK => ?_
            refine s1 hK rfl rfl rfl rfl fun a hK => ?_
            obtain ⟨x134, hx135, h⟩ := obind_some h
            refine s_val hK rfl rfl rfl (r_ixa hf11 hx128 hK ts36 rfl rfl rfl) fun a hK => ?_
            refine s_val hK rfl rfl rfl (r_fa fa144_1 hK rfl rfl) fun a hK => ?_
            refine s_val hK rfl rfl rfl (r_lde1 hf11 (hM.a00 (Enc.rd_lt hf11)) hx128 1 t13 hK rfl rfl rfl rfl) fun a hK => ?_
            obtain ⟨x136, hx137, h⟩ := obind_some h
            refine s_call hK Tryz.call136 rfl rfl rfl rfl rfl (c_spec_l1In fu _ _ _  hx137) fun e138 w139 hR => ?_
            obtain ⟨rfl, hE⟩ := hR
            refine ⟨_, rfl, fun a hK => ?_⟩
            have hM := hM.step hE
            iterate 2 (refine s1 hK rfl rfl rfl rfl fun a hK => ?_)
            refine wpList_nil (nm_then ?_)
            refine c_cond (b := !x136) hK rfl (fun hb140 => ?_) (fun hb140 => ?_)
            · have h := bif_t hb140 h
              refine wp_seq ?_
              refine wp_region_lit ?_
              refine s1 hK rfl rfl rfl rfl fun a hK => ?_
              refine wpList_nil (nm_then ?_)
              refine wp_ret (rt_block (rt_then (rt_then (rt_block (rt_then ?_)))))
              have h := Option.some.inj h
              subst h
              exact finR1 hK rfl (RV.tmp hK rfl) ⟨rfl, hM.ext⟩
            · have h := bif_f hb140 h
              refine wp_skip (nm_block (nm_then ?_))
              exact ⟨hK.keep [1, 3] rfl, hM.sel [0] rfl (by decide), h⟩
      · have h := bif_f hb111 h
        refine wp_exit (ex_then (ex_then (ex_same (nm_then ?_))))
        refine wp_seq ?_
        refine wp_seq ?_
        refine wp_region_lit ?_
        refine s1 hK rfl rfl rfl rfl fun a hK => ?_
        refine wpList_nil (nm_then ?_)
        refine wp_block ?_
        refine c_loop (fun n a w => ∃ (i161 : Int), K 111 [(1, .pointer (some (⟨b14, 0, none⟩ : Addr))), (4, .int .i64 (i161))] a ∧ St [] w0 w [([b14], w16)] ∧ d_spec_BoundsOk_L2 fu r1 n i161 = some r) ?_ ?_ fu _ _ ?_
        · rintro a w ⟨_, _, _, h⟩
          cases (show none = some _ from h)
        · rintro m162 a w160 ⟨i161, hK, hM, h⟩
          rw [d_spec_BoundsOk_L2_s] at h
          unfold d_spec_BoundsOk_L2_B at h
          refine wp_seq ?_
          refine wp_seq ?_
          refine wp_region_lit ?_
          refine s1 hK rfl rfl rfl rfl fun a hK => ?_
          refine s_val hK rfl rfl rfl (r_fa fa40_4 hK rfl rfl) fun a hK => ?_
          refine s_val hK rfl rfl rfl (r_ldb t137 hM 0 hb15 7 hK rfl rfl rfl rfl rfl) fun a hK => ?_
          refine s_val hK rfl rfl rfl (r_len (α := Typ) hf12 hK Tryz.underlying37 rfl rfl) fun a hK => ?_
          refine s1 hK rfl rfl rfl rfl fun a hK => ?_
          refine wpList_nil (nm_then ?_)
          refine c_cond (b := decide (i161 < ((r1.fTypes.length : Int)))) hK rfl (fun hb163 => ?_) (fun hb163 => ?_)
          · have h := bif_t hb163 h
            refine wp_skip (nm_then ?_)
            refine wp_seq ?_
            refine wp_block ?_
            refine wp_seq ?_
            refine wp_region_lit ?_
            refine s_val hK rfl rfl rfl (r_fa fa40_4 hK rfl rfl) fun a hK => ?_
            refine s_val hK rfl rfl rfl (r_ldb t137 hM 0 hb15 7 hK rfl rfl rfl rfl rfl) fun a hK => ?_
            refine s1 hK rfl rfl rfl rfl fun a hK => ?_
            obtain ⟨x164, hx165, h⟩ := obind_some h
            refine s_val hK rfl rfl rfl (r_ixa hf12 hx165 hK ts37 rfl rfl rfl) fun a hK => ?_
            refine s_val hK rfl rfl rfl (r_lde hf12 (hM.a00 (Enc.rd_lt hf12)) hx165 ta92 hK rfl rfl) fun a hK => ?_
            obtain ⟨x166, hx167, h⟩ := obind_some h
            refine s_call hK Tryz.call176 rfl rfl rfl rfl rfl (c_spec_TypeOk fu (x164 : Typ)  hx167) fun e168 w169 hR => ?_
            obtain ⟨rfl, hE⟩ := hR
            refine ⟨_, rfl, fun a hK => ?_⟩
            have hM := hM.step hE
            refine s1 hK rfl rfl rfl rfl fun a hK => ?_
            refine wpList_nil (nm_then ?_)
            refine c_cond (b := !x166) hK rfl (fun hb170 => ?_) (fun hb170 => ?_)
            · have h := bif_t hb170 h
              refine wp_seq ?_
              refine wp_region_lit ?_
              refine s1 hK rfl rfl rfl rfl fun a hK => ?_
              refine wpList_nil (nm_then ?_)
              refine wp_ret (rt_block (rt_then (rt_then (rt_block (rt_then ?_)))))
              have h := Option.some.inj h
              subst h
              exact finR1 hK rfl (RV.tmp hK rfl) ⟨rfl, hM.ext⟩
            · have h := bif_f hb170 h
              refine wp_skip (nm_block (nm_then ?_))
              refine wp_region_lit ?_
              iterate 3 (refine s1 hK rfl rfl rfl rfl fun a hK => ?_)
              refine wpList_nil (nm_then ?_)
              exact ⟨w64 (i161 + 1), hK.keep [1, 4] rfl, hM.sel [0] rfl (by decide), h⟩
          · have h := bif_f hb163 h
            refine wp_exit (ex_then (ex_then (ex_same (nm_then ?_))))
            refine wp_seq ?_
            refine wp_region_lit ?_
            refine s1 hK rfl rfl rfl rfl fun a hK => ?_
            refine wpList_nil (nm_then ?_)
            refine wp_seq ?_
            refine wp_seq ?_
            refine wp_region_lit ?_
            refine s1 hK rfl rfl rfl rfl fun a hK => ?_
            refine wpList_nil (nm_then ?_)
            refine wp_block ?_
            refine c_loop (fun n a w => ∃ (units196 : Int) (i197 : Int), K 111 [(1, .pointer (some (⟨b14, 0, none⟩ : Addr))), (5, .int .i64 (units196)), (6, .int .i64 (i197))] a ∧ St [] w0 w [([b14], w16)] ∧ d_spec_BoundsOk_L1 fu r1 n units196 i197 = some r) ?_ ?_ fu _ _ ?_
            · rintro a w ⟨_, _, _, _, h⟩
              cases (show none = some _ from h)
            · rintro m198 a w195 ⟨units196, i197, hK, hM, h⟩
              rw [d_spec_BoundsOk_L1_s] at h
              unfold d_spec_BoundsOk_L1_B at h
              refine wp_seq ?_
              refine wp_seq ?_
              refine wp_region_lit ?_
              refine s1 hK rfl rfl rfl rfl fun a hK => ?_
              refine s_val hK rfl rfl rfl (r_fa fa40_6 hK rfl rfl) fun a hK => ?_
              refine s_val hK rfl rfl rfl (r_ldb t138 hM 0 hb15 9 hK rfl rfl rfl rfl rfl) fun a hK => ?_
              refine s_val hK rfl rfl rfl (r_len (α := Item) hf13 hK Tryz.underlying38 rfl rfl) fun a hK => ?_
              refine s1 hK rfl rfl rfl rfl fun a hK => ?_
              refine wpList_nil (nm_then ?_)
              refine c_cond (b := decide (i197 < ((r1.fItems.length : Int)))) hK rfl (fun hb199 => ?_) (fun hb199 => ?_)
              · have h := bif_t hb199 h
                refine wp_skip (nm_then ?_)
                refine wp_seq ?_
                refine wp_block ?_
                refine wp_seq ?_
                refine wp_seq ?_
                refine wp_region_lit ?_
                refine s_val hK rfl rfl rfl (r_fa fa40_6 hK rfl rfl) fun a hK => ?_
                refine s_val hK rfl rfl rfl (r_ldb t138 hM 0 hb15 9 hK rfl rfl rfl rfl rfl) fun a hK => ?_
                refine s1 hK rfl rfl rfl rfl fun a hK => ?_
                obtain ⟨x200, hx201, h⟩ := obind_some h
                refine s_val hK rfl rfl rfl (r_ixa hf13 hx201 hK ts38 rfl rfl rfl) fun a hK => ?_
                refine s_val hK rfl rfl rfl (r_lde hf13 (hM.a00 (Enc.rd_lt hf13)) hx201 ta120 hK rfl rfl) fun a hK => ?_
                obtain ⟨x202, hx203, h⟩ := obind_some h
                refine s_call hK Tryz.call177 rfl rfl rfl rfl rfl (c_spec_ItemOk fu (x200 : Item)  hx203) fun e204 w205 hR => ?_
                obtain ⟨rfl, hE⟩ := hR
                refine ⟨_, rfl, fun a hK => ?_⟩
                have hM := hM.step hE
                refine s1 hK rfl rfl rfl rfl fun a hK => ?_
                refine wpList_nil (nm_then ?_)
                refine c_cond (b := !x202) hK rfl (fun hb206 => ?_) (fun hb206 => ?_)
                · have h := bif_t hb206 h
                  refine wp_seq ?_
                  refine wp_region_lit ?_
                  refine s1 hK rfl rfl rfl rfl fun a hK => ?_
                  refine wpList_nil (nm_then ?_)
                  refine wp_ret (rt_then (rt_block (rt_then (rt_then (rt_block (rt_then ?_))))))
                  have h := Option.some.inj h
                  subst h
                  exact finR1 hK rfl (RV.tmp hK rfl) ⟨rfl, hM.ext⟩
                · have h := bif_f hb206 h
                  refine wp_skip (nm_then ?_)
                  refine wp_region_lit ?_
                  refine s1 hK rfl rfl rfl rfl fun a hK => ?_
                  refine s_val hK rfl rfl rfl (r_fa fa40_6 hK rfl rfl) fun a hK => ?_
                  refine s_val hK rfl rfl rfl (r_ldb t138 hM 0 hb15 9 hK rfl rfl rfl rfl rfl) fun a hK => ?_
                  refine s1 hK rfl rfl rfl rfl fun a hK => ?_
                  obtain ⟨x207, hx208, h⟩ := obind_some h
                  refine s_val hK rfl rfl rfl (r_ixa hf13 hx201 hK ts38 rfl rfl rfl) fun a hK => ?_
                  refine s_val hK rfl rfl rfl (r_fa fa120_6 hK rfl rfl) fun a hK => ?_
                  refine s_val hK rfl rfl rfl (r_lde1 hf13 (hM.a00 (Enc.rd_lt hf13)) hx201 6 t13 hK rfl rfl rfl rfl) fun a hK => ?_
                  iterate 2 (refine s1 hK rfl rfl rfl rfl fun a hK => ?_)
                  refine wpList_nil (nm_block (nm_then ?_))
                  refine wp_region_lit ?_
                  iterate 3 (refine s1 hK rfl rfl rfl rfl fun a hK => ?_)
                  refine wpList_nil (nm_then ?_)
                  exact ⟨w64 (units196 + x200.fCount), w64 (i197 + 1), hK.keep [1, 5, 6] rfl, hM.sel [0] rfl (by decide), h⟩
              · have h := bif_f hb199 h
                refine wp_exit (ex_then (ex_then (ex_same (nm_then ?_))))
                refine wp_seq ?_
                refine wp_region_lit ?_
                iterate 3 (refine s1 hK rfl rfl rfl rfl fun a hK => ?_)
                refine wpList_nil (nm_then ?_)
                refine wp_ret ?_
                have h := Option.some.inj h
                subst h
                exact finR1 hK rfl (RV.tmp hK rfl) ⟨rfl, hM.ext⟩
            · exact ⟨0, 0, hK.keep [1, 5, 6] rfl, hM.sel [0] rfl (by decide), h⟩
        · exact ⟨0, hK.keep [1, 4] rfl, hM.sel [0] rfl (by decide), h⟩
    · exact ⟨0, hK.keep [1, 3] rfl, hM.sel [0] rfl (by decide), h⟩
  · refine wp_seq ?_
    refine wp_region_lit ?_
    refine s_val hK rfl rfl rfl (r_fa fa40_0 hK rfl rfl) fun a hK => ?_
    refine s_val hK rfl rfl rfl (r_ldb t13 hM 0 hb15 0 hK rfl rfl rfl rfl rfl) fun a hK => ?_
    obtain ⟨x209, hx210, h⟩ := obind_some h
    refine s_call hK Tryz.call136 rfl rfl rfl rfl rfl (c_spec_l1In fu _ _ _  hx210) fun e211 w212 hR => ?_
    obtain ⟨rfl, hE⟩ := hR
    refine ⟨_, rfl, fun a hK => ?_⟩
    have hM := hM.step hE
    iterate 2 (refine s1 hK rfl rfl rfl rfl fun a hK => ?_)
    refine bsplit (!x209) (fun hb213 => ?_) (fun hb213 => ?_)
    · have h := bif_t hb213 h
      have hK := hK.re (d := 11) rfl (congrArg Value.bool hb213)
      refine sk hK rfl rfl rfl fun a hK => ?_
      refine sk hK rfl rfl rfl fun a hK => ?_
      refine sk hK rfl rfl rfl fun a hK => ?_
      refine sk hK rfl rfl rfl fun a hK => ?_
      iterate 2 (refine s1 hK rfl rfl rfl rfl fun a hK => ?_)
      refine sk hK rfl rfl rfl fun a hK => ?_
      refine sk hK rfl rfl rfl fun a hK => ?_
      refine sk hK rfl rfl rfl fun a hK => ?_
      refine sk hK rfl rfl rfl fun a hK => ?_
      iterate 2 (refine s1 hK rfl rfl rfl rfl fun a hK => ?_)
      refine sk hK rfl rfl rfl fun a hK => ?_
      refine sk hK rfl rfl rfl fun a hK => ?_
      refine sk hK rfl rfl rfl fun a hK => ?_
      refine sk hK rfl rfl rfl fun a hK => ?_
      iterate 2 (refine s1 hK rfl rfl rfl rfl fun a hK => ?_)
      refine sk hK rfl rfl rfl fun a hK => ?_
      refine sk hK rfl rfl rfl fun a hK => ?_
      refine sk hK rfl rfl rfl fun a hK => ?_
      refine sk hK rfl rfl rfl fun a hK => ?_
      refine sk hK rfl rfl rfl fun a hK => ?_
      iterate 2 (refine s1 hK rfl rfl rfl rfl fun a hK => ?_)
      refine sk hK rfl rfl rfl fun a hK => ?_
      refine sk hK rfl rfl rfl fun a hK => ?_
      refine sk hK rfl rfl rfl fun a hK => ?_
      refine sk hK rfl rfl rfl fun a hK => ?_
      iterate 2 (refine s1 hK rfl rfl rfl rfl fun a hK => ?_)
      refine sk hK rfl rfl rfl fun a hK => ?_
      refine sk hK rfl rfl rfl fun a hK => ?_
      refine sk hK rfl rfl rfl fun a hK => ?_
      refine sk hK rfl rfl rfl fun a hK => ?_
      refine s1 hK rfl rfl rfl rfl fun a hK => ?_
      have hK := hK.keep [1, 47] rfl
      refine wpList_nil (nm_then ?_)
      refine wp_cond_true (hK.ev rfl) ?_
      refine wp_seq ?_
      refine wp_region_lit ?_
      refine s1 hK rfl rfl rfl rfl fun a hK => ?_
      refine wpList_nil (nm_then ?_)
      refine wp_ret (rt_then ?_)
      have h := Option.some.inj h
      subst h
      exact finR1 hK rfl (RV.tmp hK rfl) ⟨rfl, hM.ext⟩
    · have h := bif_f hb213 h
      have hK := hK.re (d := 11) rfl (congrArg Value.bool hb213)
      refine s_val hK rfl rfl rfl (r_fa fa40_1 hK rfl rfl) fun a hK => ?_
      refine s_val hK rfl rfl rfl (r_ldB ta35 hM 0 hb15 1 hK rfl rfl rfl rfl rfl rfl) fun a hK => ?_
      obtain ⟨x214, hx215, h⟩ := obind_some h
      refine s_call hK Tryz.call174 rfl rfl rfl rfl rfl (c_spec_PalletOk fu (r1.fPallet : Pallet)  hx215) fun e216 w217 hR => ?_
      obtain ⟨rfl, hE⟩ := hR
      refine ⟨_, rfl, fun a hK => ?_⟩
      have hM := hM.step hE
      iterate 3 (refine s1 hK rfl rfl rfl rfl fun a hK => ?_)
      refine bsplit (!x214) (fun hb218 => ?_) (fun hb218 => ?_)
      · have h := bif_t hb218 h
        have hK := hK.re (d := 17) rfl (congrArg Value.bool hb218)
        refine sk hK rfl rfl rfl fun a hK => ?_
        refine sk hK rfl rfl rfl fun a hK => ?_
        refine sk hK rfl rfl rfl fun a hK => ?_
        refine sk hK rfl rfl rfl fun a hK => ?_
        iterate 2 (refine s1 hK rfl rfl rfl rfl fun a hK => ?_)
        refine sk hK rfl rfl rfl fun a hK => ?_
        refine sk hK rfl rfl rfl fun a hK => ?_
        refine sk hK rfl rfl rfl fun a hK => ?_
        refine sk hK rfl rfl rfl fun a hK => ?_
        iterate 2 (refine s1 hK rfl rfl rfl rfl fun a hK => ?_)
        refine sk hK rfl rfl rfl fun a hK => ?_
        refine sk hK rfl rfl rfl fun a hK => ?_
        refine sk hK rfl rfl rfl fun a hK => ?_
        refine sk hK rfl rfl rfl fun a hK => ?_
        refine sk hK rfl rfl rfl fun a hK => ?_
        iterate 2 (refine s1 hK rfl rfl rfl rfl fun a hK => ?_)
        refine sk hK rfl rfl rfl fun a hK => ?_
        refine sk hK rfl rfl rfl fun a hK => ?_
        refine sk hK rfl rfl rfl fun a hK => ?_
        refine sk hK rfl rfl rfl fun a hK => ?_
        iterate 2 (refine s1 hK rfl rfl rfl rfl fun a hK => ?_)
        refine sk hK rfl rfl rfl fun a hK => ?_
        refine sk hK rfl rfl rfl fun a hK => ?_
        refine sk hK rfl rfl rfl fun a hK => ?_
        refine sk hK rfl rfl rfl fun a hK => ?_
        refine s1 hK rfl rfl rfl rfl fun a hK => ?_
        have hK := hK.keep [1, 47] rfl
        refine wpList_nil (nm_then ?_)
        refine wp_cond_true (hK.ev rfl) ?_
        refine wp_seq ?_
        refine wp_region_lit ?_
        refine s1 hK rfl rfl rfl rfl fun a hK => ?_
        refine wpList_nil (nm_then ?_)
        refine wp_ret (rt_then ?_)
        have h := Option.some.inj h
        subst h
        exact finR1 hK rfl (RV.tmp hK rfl) ⟨rfl, hM.ext⟩
      · have h := bif_f hb218 h
        have hK := hK.re (d := 17) rfl (congrArg Value.bool hb218)
        refine s_val hK rfl rfl rfl (r_fa fa40_2 hK rfl rfl) fun a hK => ?_
        refine s_val hK rfl rfl rfl (r_ldb t13 hM 0 hb15 5 hK rfl rfl rfl rfl rfl) fun a hK => ?_
        obtain ⟨x219, hx220, h⟩ := obind_some h
        refine s_call hK Tryz.call136 rfl rfl rfl rfl rfl (c_spec_l1In fu _ _ _  hx220) fun e221 w222 hR => ?_
        obtain ⟨rfl, hE⟩ := hR
        refine ⟨_, rfl, fun a hK => ?_⟩
        have hM := hM.step hE
        iterate 3 (refine s1 hK rfl rfl rfl rfl fun a hK => ?_)
        refine bsplit (!x219) (fun hb223 => ?_) (fun hb223 => ?_)
        · have h := bif_t hb223 h
          have hK := hK.re (d := 23) rfl (congrArg Value.bool hb223)
          refine sk hK rfl rfl rfl fun a hK => ?_
          refine sk hK rfl rfl rfl fun a hK => ?_
          refine sk hK rfl rfl rfl fun a hK => ?_
          refine sk hK rfl rfl rfl fun a hK => ?_
          iterate 2 (refine s1 hK rfl rfl rfl rfl fun a hK => ?_)
          refine sk hK rfl rfl rfl fun a hK => ?_
          refine sk hK rfl rfl rfl fun a hK => ?_
          refine sk hK rfl rfl rfl fun a hK => ?_
          refine sk hK rfl rfl rfl fun a hK => ?_
          refine sk hK rfl rfl rfl fun a hK => ?_
          iterate 2 (refine s1 hK rfl rfl rfl rfl fun a hK => ?_)
          refine sk hK rfl rfl rfl fun a hK => ?_
          refine sk hK rfl rfl rfl fun a hK => ?_
          refine sk hK rfl rfl rfl fun a hK => ?_
          refine sk hK rfl rfl rfl fun a hK => ?_
          iterate 2 (refine s1 hK rfl rfl rfl rfl fun a hK => ?_)
          refine sk hK rfl rfl rfl fun a hK => ?_
          refine sk hK rfl rfl rfl fun a hK => ?_
          refine sk hK rfl rfl rfl fun a hK => ?_
          refine sk hK rfl rfl rfl fun a hK => ?_
          refine s1 hK rfl rfl rfl rfl fun a hK => ?_
          have hK := hK.keep [1, 47] rfl
          refine wpList_nil (nm_then ?_)
          refine wp_cond_true (hK.ev rfl) ?_
          refine wp_seq ?_
          refine wp_region_lit ?_
          refine s1 hK rfl rfl rfl rfl fun a hK => ?_
          refine wpList_nil (nm_then ?_)
          refine wp_ret (rt_then ?_)
          have h := Option.some.inj h
          subst h
          exact finR1 hK rfl (RV.tmp hK rfl) ⟨rfl, hM.ext⟩
        · have h := bif_f hb223 h
          have hK := hK.re (d := 23) rfl (congrArg Value.bool hb223)
          refine s_val hK rfl rfl rfl (r_fa fa40_3 hK rfl rfl) fun a hK => ?_
          refine s_val hK rfl rfl rfl (r_ldb t136 hM 0 hb15 6 hK rfl rfl rfl rfl rfl) fun a hK => ?_
          refine s_val hK rfl rfl rfl (r_len (α := Pair) hf11 hK Tryz.underlying36 rfl rfl) fun a hK => ?_
          iterate 3 (refine s1 hK rfl rfl rfl rfl fun a hK => ?_)
          refine bsplit (decide (((r1.fPairs.length : Int)) > 16)) (fun hb224 => ?_) (fun hb224 => ?_)
          · have h := bif_t hb224 h
            have hK := hK.re (d := 29) rfl (congrArg Value.bool hb224)
            refine sk hK rfl rfl rfl fun a hK => ?_
            refine sk hK rfl rfl rfl fun a hK => ?_
            refine sk hK rfl rfl rfl fun a hK => ?_
            refine sk hK rfl rfl rfl fun a hK => ?_
            refine sk hK rfl rfl rfl fun a hK => ?_
            iterate 2 (refine s1 hK rfl rfl rfl rfl fun a hK => ?_)
            refine sk hK rfl rfl rfl fun a hK => ?_
            refine sk hK rfl rfl rfl fun a hK => ?_
            refine sk hK rfl rfl rfl fun a hK => ?_
            refine sk hK rfl rfl rfl fun a hK => ?_
            iterate 2 (refine s1 hK rfl rfl rfl rfl fun a hK => ?_)
            refine sk hK rfl rfl rfl fun a hK => ?_
            refine sk hK rfl rfl rfl fun a hK => ?_
            refine sk hK rfl rfl rfl fun a hK => ?_
            refine sk hK rfl rfl rfl fun a hK => ?_
            refine s1 hK rfl rfl rfl rfl fun a hK => ?_
            have hK := hK.keep [1, 47] rfl
            refine wpList_nil (nm_then ?_)
            refine wp_cond_true (hK.ev rfl) ?_
            refine wp_seq ?_
            refine wp_region_lit ?_
            refine s1 hK rfl rfl rfl rfl fun a hK => ?_
            refine wpList_nil (nm_then ?_)
            refine wp_ret (rt_then ?_)
            have h := Option.some.inj h
            subst h
            exact finR1 hK rfl (RV.tmp hK rfl) ⟨rfl, hM.ext⟩
          · have h := bif_f hb224 h
            have hK := hK.re (d := 29) rfl (congrArg Value.bool hb224)
            refine s_val hK rfl rfl rfl (r_fa fa40_4 hK rfl rfl) fun a hK => ?_
            refine s_val hK rfl rfl rfl (r_ldb t137 hM 0 hb15 7 hK rfl rfl rfl rfl rfl) fun a hK => ?_
            refine s_val hK rfl rfl rfl (r_len (α := Typ) hf12 hK Tryz.underlying37 rfl rfl) fun a hK => ?_
            obtain ⟨x225, hx226, h⟩ := obind_some h
            refine s_call hK Tryz.call136 rfl rfl rfl rfl rfl (c_spec_l1In fu _ _ _  hx226) fun e227 w228 hR => ?_
            obtain ⟨rfl, hE⟩ := hR
            refine ⟨_, rfl, fun a hK => ?_⟩
            have hM := hM.step hE
            iterate 3 (refine s1 hK rfl rfl rfl rfl fun a hK => ?_)
            refine bsplit (!x225) (fun hb229 => ?_) (fun hb229 => ?_)
            · have h := bif_t hb229 h
              have hK := hK.re (d := 36) rfl (congrArg Value.bool hb229)
              refine sk hK rfl rfl rfl fun a hK => ?_
              refine sk hK rfl rfl rfl fun a hK => ?_
              refine sk hK rfl rfl rfl fun a hK => ?_
              refine sk hK rfl rfl rfl fun a hK => ?_
              iterate 2 (refine s1 hK rfl rfl rfl rfl fun a hK => ?_)
              refine sk hK rfl rfl rfl fun a hK => ?_
              refine sk hK rfl rfl rfl fun a hK => ?_
              refine sk hK rfl rfl rfl fun a hK => ?_
              refine sk hK rfl rfl rfl fun a hK => ?_
              refine s1 hK rfl rfl rfl rfl fun a hK => ?_
              have hK := hK.keep [1, 47] rfl
              refine wpList_nil (nm_then ?_)
              refine wp_cond_true (hK.ev rfl) ?_
              refine wp_seq ?_
              refine wp_region_lit ?_
              refine s1 hK rfl rfl rfl rfl fun a hK => ?_
              refine wpList_nil (nm_then ?_)
              refine wp_ret (rt_then ?_)
              have h := Option.some.inj h
              subst h
              exact finR1 hK rfl (RV.tmp hK rfl) ⟨rfl, hM.ext⟩
            · have h := bif_f hb229 h
              have hK := hK.re (d := 36) rfl (congrArg Value.bool hb229)
              refine s_val hK rfl rfl rfl (r_fa fa40_5 hK rfl rfl) fun a hK => ?_
              refine s_val hK rfl rfl rfl (r_ldb t13 hM 0 hb15 8 hK rfl rfl rfl rfl rfl) fun a hK => ?_
              obtain ⟨x230, hx231, h⟩ := obind_some h
              refine s_call hK Tryz.call175 rfl rfl rfl rfl rfl (c_spec_l2Id fu _  hx231) fun e232 w233 hR => ?_
              obtain ⟨rfl, hE⟩ := hR
              refine ⟨_, rfl, fun a hK => ?_⟩
              have hM := hM.step hE
              iterate 3 (refine s1 hK rfl rfl rfl rfl fun a hK => ?_)
              refine bsplit (!x230) (fun hb234 => ?_) (fun hb234 => ?_)
              · have h := bif_t hb234 h
                have hK := hK.re (d := 42) rfl (congrArg Value.bool hb234)
                refine sk hK rfl rfl rfl fun a hK => ?_
                refine sk hK rfl rfl rfl fun a hK => ?_
                refine sk hK rfl rfl rfl fun a hK => ?_
                refine sk hK rfl rfl rfl fun a hK => ?_
                refine s1 hK rfl rfl rfl rfl fun a hK => ?_
                have hK := hK.keep [1, 47] rfl
                refine wpList_nil (nm_then ?_)
                refine wp_cond_true (hK.ev rfl) ?_
                refine wp_seq ?_
                refine wp_region_lit ?_
                refine s1 hK rfl rfl rfl rfl fun a hK => ?_
                refine wpList_nil (nm_then ?_)
                refine wp_ret (rt_then ?_)
                have h := Option.some.inj h
                subst h
                exact finR1 hK rfl (RV.tmp hK rfl) ⟨rfl, hM.ext⟩
              · have h := bif_f hb234 h
                have hK := hK.re (d := 42) rfl (congrArg Value.bool hb234)
                refine s_val hK rfl rfl rfl (r_fa fa40_6 hK rfl rfl) fun a hK => ?_
                refine s_val hK rfl rfl rfl (r_ldb t138 hM 0 hb15 9 hK rfl rfl rfl rfl rfl) fun a hK => ?_
                refine s_val hK rfl rfl rfl (r_len (α := Item) hf13 hK Tryz.underlying38 rfl rfl) fun a hK => ?_
                iterate 2 (refine s1 hK rfl rfl rfl rfl fun a hK => ?_)
                have hK := hK.keep [1, 47] rfl
                refine wpList_nil (nm_then ?_)
                refine c_cond (b := decide (((r1.fItems.length : Int)) > 8)) hK rfl (fun hb235 => ?_) (fun hb235 => ?_)
                · have h := bif_t hb235 h
                  refine wp_seq ?_
                  refine wp_region_lit ?_
                  refine s1 hK rfl rfl rfl rfl fun a hK => ?_
                  refine wpList_nil (nm_then ?_)
                  refine wp_ret (rt_then ?_)
                  have h := Option.some.inj h
                  subst h
                  exact finR1 hK rfl (RV.tmp hK rfl) ⟨rfl, hM.ext⟩
                · have h := bif_f hb235 h
                  refine wp_skip (nm_then ?_)
                  exact ⟨hK.keep [1] rfl, hM.sel [0] rfl (by decide), h⟩

theorem c_spec_MasterOf (fu : Nat) {w0 : World} (r1 : Request) {cs2 : List Value} {F3 : List Nat} (hp4 : rd w0 F3 cs2 r1) {r : Typ × Bool}
    (h : d_spec_MasterOf fu r1 = some r) :
    Calls Tryz.prog 88 #[.agg cs2.toArray] w0 fun e w => e = .returned (.tuple #[.agg (Flat.e r.1).toArray, .bool (r.2)]) ∧ Ext [] w0 w := by
  refine enter (vs := [_]) Tryz.func88 rfl Tryz.ntmps88 rfl fun a hK => ?_
  have hM := St.start w0
  obtain ⟨v5, F6, v7, F8, v9, F10, rfl, rfl, hf11, hf12, hf13⟩ := hp4
  unfold d_spec_MasterOf at h
  refine wp_seq ?_
  refine wp_region_lit ?_
  refine s_box (cs := [.int .i64 (r1.fWay), .int .i64 (r1.fPallet.fW), .int .i64 (r1.fPallet.fD), .int .i64 (r1.fPallet.fH), .int .i64 (r1.fPallet.fGram), .int .i64 (r1.fClasses), v5, v7, .int .i64 (r1.fMaster), v9]) hM hK rfl rfl rfl rfl rfl rfl fun b14 w16 a hK hM hE hb15 => ?_
  refine s_alloc (cs := [.int .i64 (0), .int .i64 (0), .int .i64 (0), .int .i64 (0), .int .i64 (0), .int .i64 (0), .int .i64 (0)]) hM hK Tryz.zeroValue92 rfl rfl rfl rfl rfl fun b17 w19 a hK hM hE hb18 => ?_
  refine s1 hK rfl rfl rfl rfl fun a hK => ?_
  refine wpList_nil (nm_then ?_)
  refine wp_seq ?_
  refine wp_seq ?_
  refine wp_region_lit ?_
  refine s1 hK rfl rfl rfl rfl fun a hK => ?_
  refine wpList_nil (nm_then ?_)
  refine wp_block ?_
  refine c_loop (fun n a w => ∃ (i42 : Int), K 27 [(1, .pointer (some (⟨b14, 0, none⟩ : Addr))), (2, .pointer (some (⟨b17, 0, none⟩ : Addr))), (4, .int .i64 (i42))] a ∧ St [] w0 w [([b14], w16), ([b17], w19)] ∧ d_spec_MasterOf_L1 fu r1 n i42 = some r) ?_ ?_ fu _ _ ?_
  · rintro a w ⟨_, _, _, h⟩
    cases (show none = some _ from h)
  · rintro m43 a w41 ⟨i42, hK, hM, h⟩
    rw [d_spec_MasterOf_L1_s] at h
    unfold d_spec_MasterOf_L1_B at h
    refine wp_seq ?_
    refine wp_seq ?_
    refine wp_region_lit ?_
    refine s1 hK rfl rfl rfl rfl fun a hK => ?_
    refine s_val hK rfl rfl rfl (r_fa fa40_4 hK rfl rfl) fun a hK => ?_
    refine s_val hK rfl rfl rfl (r_ldb t137 hM 0 hb15 7 hK rfl rfl rfl rfl rfl) fun a hK => ?_
    refine s_val hK rfl rfl rfl (r_len (α := Typ) hf12 hK Tryz.underlying37 rfl rfl) fun a hK => ?_
    refine s1 hK rfl rfl rfl rfl fun a hK => ?_
    refine wpList_nil (nm_then ?_)
    refine c_cond (b := decide (i42 < ((r1.fTypes.length : Int)))) hK rfl (fun hb44 => ?_) (fun hb44 => ?_)
    · have h := bif_t hb44 h
      refine wp_skip (nm_then ?_)
      refine wp_seq ?_
      refine wp_block ?_
      refine wp_seq ?_
      refine d_go [] mixo hM rfl fun w45 hMd => ?_
      have hM := hMd
      have hS := Ext.refl ([] : List Nat) w45
      refine d_take hK 0 rfl (by kernel_rfl) (by kernel_rfl) (by kernel_rfl) rfl rfl rfl hS (fun _ _ _ h => h) (fun w hS => r_fa fa40_4 hK rfl rfl) fun a hK => ?_
      refine d_take hK 1 rfl (by kernel_rfl) (by kernel_rfl) (by kernel_rfl) rfl rfl rfl hS (fun _ _ _ h => h) (fun w hS => r_ld1 t137 (r := []) (hb15.at ((hMd.step hS).a 0 rfl) 7 1 rfl rfl rfl) hK rfl rfl) fun a hK => ?_
      refine d_pure hK 2 rfl (by kernel_rfl) (by kernel_rfl) (by kernel_rfl) rfl rfl rfl hS (fun _ _ _ h => h) rfl fun a hK => ?_
      obtain ⟨x46, hx47, h⟩ := obind_some h
      refine d_take hK 3 rfl (by kernel_rfl) (by kernel_rfl) (by kernel_rfl) rfl rfl rfl hS (fun _ _ _ h => h) (fun w hS => r_ixa hf12 hx47 hK ts37 rfl rfl rfl) fun a hK => ?_
      refine d_take hK 4 rfl (by kernel_rfl) (by kernel_rfl) (by kernel_rfl) rfl rfl rfl hS (fun _ _ _ h => h) (fun w hS => r_fa fa92_0 hK rfl rfl) fun a hK => ?_
      refine d_take hK 5 rfl (by kernel_rfl) (by kernel_rfl) (by kernel_rfl) rfl rfl rfl hS (fun _ _ _ h => h) (fun w hS => r_lde1 hf12 ((hMd.step hS).a00 (Enc.rd_lt hf12)) hx47 0 t13 hK rfl rfl rfl rfl) fun a hK => ?_
      refine d_take hK 6 rfl (by kernel_rfl) (by kernel_rfl) (by kernel_rfl) rfl rfl rfl hS (fun _ _ _ h => h) (fun w hS => r_fa fa40_5 hK rfl rfl) fun a hK => ?_
      refine d_take hK 7 rfl (by kernel_rfl) (by kernel_rfl) (by kernel_rfl) rfl rfl rfl hS (fun _ _ _ h => h) (fun w hS => r_ld1 t13 (r := []) (hb15.at ((hMd.step hS).a 0 rfl) 8 1 rfl rfl rfl) hK rfl rfl) fun a hK => ?_
      refine d_pure hK 8 rfl (by kernel_rfl) (by kernel_rfl) (by kernel_rfl) rfl rfl rfl hS (fun _ _ _ h => h) rfl fun a hK => ?_
      refine d_done (by kernel_rfl) ?_
      refine (nm_then ?_)
      refine c_cond (b := x46.fId == r1.fMaster) hK rfl (fun hb48 => ?_) (fun hb48 => ?_)
      · have h := bif_t hb48 h
        refine wp_seq ?_
        refine wp_region_lit ?_
        refine s_val hK rfl rfl rfl (r_fa fa40_4 hK rfl rfl) fun a hK => ?_
        refine s_val hK rfl rfl rfl (r_ldb t137 hM 0 hb15 7 hK rfl rfl rfl rfl rfl) fun a hK => ?_
        refine s1 hK rfl rfl rfl rfl fun a hK => ?_
        obtain ⟨x49, hx50, h⟩ := obind_some h
        refine s_val hK rfl rfl rfl (r_ixa hf12 hx47 hK ts37 rfl rfl rfl) fun a hK => ?_
        refine s_val hK rfl rfl rfl (r_lde hf12 (hM.a00 (Enc.rd_lt hf12)) hx47 ta92 hK rfl rfl) fun a hK => ?_
        refine s_stb (cs' := [.int .i64 (x46.fId), .int .i64 (x46.fW), .int .i64 (x46.fH), .int .i64 (x46.fD), .int .i64 (x46.fTare), .int .i64 (x46.fGram), .int .i64 (x46.fCost)]) Tryz.sizeOf92 hM 1 hb18 0 hK rfl rfl rfl rfl rfl rfl rfl rfl rfl rfl rfl fun w51 a hK hE hM hb52 => ?_
        refine s1 hK rfl rfl rfl rfl fun a hK => ?_
        refine wpList_nil (nm_then ?_)
        refine wp_ret (rt_block (rt_then (rt_then (rt_block (rt_then ?_)))))
        have h := Option.some.inj h
        subst h
        exact finR2 hK rfl (RV.cA hK rfl ta92 (hb52.at (hM.a 1 rfl) 0 7 rfl rfl rfl) rfl) (RV.tmp hK rfl) ⟨rfl, hM.ext⟩
      · have h := bif_f hb48 h
        refine wp_skip (nm_block (nm_then ?_))
        refine wp_region_lit ?_
        iterate 3 (refine s1 hK rfl rfl rfl rfl fun a hK => ?_)
        refine wpList_nil (nm_then ?_)
        exact ⟨w64 (i42 + 1), hK.keep [1, 2, 4] rfl, hM.sel [0, 1] rfl (by decide), h⟩
    · have h := bif_f hb44 h
      refine wp_exit (ex_then (ex_then (ex_same (nm_then ?_))))
      refine wp_seq ?_
      refine wp_region_lit ?_
      refine s_val hK rfl rfl rfl (r_build bt92 hK (ps := []) rfl rfl rfl) fun a hK => ?_
      refine s_stb (cs' := [.int .i64 (0), .int .i64 (0), .int .i64 (0), .int .i64 (0), .int .i64 (0), .int .i64 (0), .int .i64 (0)]) Tryz.sizeOf92 hM 1 hb18 0 hK rfl rfl rfl rfl rfl rfl rfl rfl rfl rfl rfl fun w53 a hK hE hM hb54 => ?_
      refine s1 hK rfl rfl rfl rfl fun a hK => ?_
      refine wpList_nil (nm_then ?_)
      refine wp_ret ?_
      have h := Option.some.inj h
      subst h
      exact finR2 hK rfl (RV.cA hK rfl ta92 (hb54.at (hM.a 1 rfl) 0 7 rfl rfl rfl) rfl) (RV.tmp hK rfl) ⟨rfl, hM.ext⟩
  · exact ⟨0, hK.keep [1, 2, 4] rfl, hM.sel [1, 0] rfl (by decide), h⟩

end Go.Proofs.YthjbcfefkdbgoaaGreat
