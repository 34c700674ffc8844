/- FnExactRivalBy: the walks of functions that the law reaches, part 5. Printed by gen.py. -/
import Derived.Test.YthjbcfefkdbgoaaGreatExactRivalByW4
set_option maxRecDepth 20000
set_option linter.unusedSimpArgs false
set_option linter.unusedVariables false
namespace Go.Proofs.YthjbcfefkdbgoaaGreat
open Go Go.RowKit
open Enc (rd ow)
open Arg (argv)
open Ret (retv)
open Go.Proofs.Tryz

theorem ta28 : TA Tryz.prog 28 10 := ⟨Tryz.isAgg28, sizeOf28⟩

def d_laws_eqIntS_L1_B (fu : Nat)  (a1 : List Int) (b5 : List Int) (k1 : Int → Option (Bool)) (i28 : Int) : Option (Bool) :=
  bif (decide (i28 < ((a1.length : Int)))) then obind (ix a1 i28) fun x32 => obind (ix b5 i28) fun x34 => bif (x32 != x34) then some (false) else k1 (w64 (i28 + 1)) else some (true)
def d_laws_eqIntS_L1 (fu : Nat)  (a1 : List Int) (b5 : List Int) : Nat → Int → Option (Bool)
  | 0 => fun _ => none
  | n + 1 => d_laws_eqIntS_L1_B fu a1 b5 (d_laws_eqIntS_L1 fu a1 b5 n)
theorem d_laws_eqIntS_L1_s (fu : Nat)  (a1 : List Int) (b5 : List Int) (n : Nat) : d_laws_eqIntS_L1 fu a1 b5 (n + 1) = d_laws_eqIntS_L1_B fu a1 b5 (d_laws_eqIntS_L1 fu a1 b5 n) := rfl

def d_laws_eqIntS (fu : Nat) (a1 : List Int) (b5 : List Int) : Option (Bool) :=
  bif (((a1.length : Int)) != ((b5.length : Int))) then some (false) else d_laws_eqIntS_L1 fu a1 b5 fu 0

def d_laws_eqIntSS_L1_B (fu : Nat)  (a1 : List (List Int)) (b5 : List (List Int)) (k1 : Int → Option (Bool)) (i64 : Int) : Option (Bool) :=
  bif (decide (i64 < ((a1.length : Int)))) then obind (ix a1 i64) fun x68 => obind (ix b5 i64) fun x77 => obind (d_laws_eqIntS fu x68 x77) fun x86 => bif (!x86) then some (false) else k1 (w64 (i64 + 1)) else some (true)
def d_laws_eqIntSS_L1 (fu : Nat)  (a1 : List (List Int)) (b5 : List (List Int)) : Nat → Int → Option (Bool)
  | 0 => fun _ => none
  | n + 1 => d_laws_eqIntSS_L1_B fu a1 b5 (d_laws_eqIntSS_L1 fu a1 b5 n)
theorem d_laws_eqIntSS_L1_s (fu : Nat)  (a1 : List (List Int)) (b5 : List (List Int)) (n : Nat) : d_laws_eqIntSS_L1 fu a1 b5 (n + 1) = d_laws_eqIntSS_L1_B fu a1 b5 (d_laws_eqIntSS_L1 fu a1 b5 n) := rfl

def d_laws_eqIntSS (fu : Nat) (a1 : List (List Int)) (b5 : List (List Int)) : Option (Bool) :=
  bif (((a1.length : Int)) != ((b5.length : Int))) then some (false) else d_laws_eqIntSS_L1 fu a1 b5 fu 0

def d_laws_eqPallet (fu : Nat) (a1 : Pallet) (b2 : Pallet) : Option (Bool) :=
  bif (a1.fW != b2.fW) then some (false) else bif (a1.fD != b2.fD) then some (false) else bif (a1.fH != b2.fH) then some (false) else bif (a1.fGram != b2.fGram) then some (false) else some (true)

def d_laws_eqPair (fu : Nat) (a1 : Pair) (b2 : Pair) : Option (Bool) :=
  bif (a1.fA != b2.fA) then some (false) else bif (a1.fB != b2.fB) then some (false) else some (true)

def d_laws_eqPairS_L1_B (fu : Nat)  (a1 : List Pair) (b5 : List Pair) (k1 : Int → Option (Bool)) (i36 : Int) : Option (Bool) :=
  bif (decide (i36 < ((a1.length : Int)))) then obind (ix a1 i36) fun x40 => obind (ix b5 i36) fun x42 => obind (d_laws_eqPair fu x40 x42) fun x44 => bif (!x44) then some (false) else k1 (w64 (i36 + 1)) else some (true)
def d_laws_eqPairS_L1 (fu : Nat)  (a1 : List Pair) (b5 : List Pair) : Nat → Int → Option (Bool)
  | 0 => fun _ => none
  | n + 1 => d_laws_eqPairS_L1_B fu a1 b5 (d_laws_eqPairS_L1 fu a1 b5 n)
theorem d_laws_eqPairS_L1_s (fu : Nat)  (a1 : List Pair) (b5 : List Pair) (n : Nat) : d_laws_eqPairS_L1 fu a1 b5 (n + 1) = d_laws_eqPairS_L1_B fu a1 b5 (d_laws_eqPairS_L1 fu a1 b5 n) := rfl

def d_laws_eqPairS (fu : Nat) (a1 : List Pair) (b5 : List Pair) : Option (Bool) :=
  bif (((a1.length : Int)) != ((b5.length : Int))) then some (false) else d_laws_eqPairS_L1 fu a1 b5 fu 0

def d_laws_eqType (fu : Nat) (a1 : Typ) (b2 : Typ) : Option (Bool) :=
  bif (a1.fId != b2.fId) then some (false) else bif (a1.fW != b2.fW) then some (false) else bif (a1.fH != b2.fH) then some (false) else bif (a1.fD != b2.fD) then some (false) else bif (a1.fTare != b2.fTare) then some (false) else bif (a1.fGram != b2.fGram) then some (false) else bif (a1.fCost != b2.fCost) then some (false) else some (true)

def d_laws_eqTypeS_L1_B (fu : Nat)  (a1 : List Typ) (b5 : List Typ) (k1 : Int → Option (Bool)) (i36 : Int) : Option (Bool) :=
  bif (decide (i36 < ((a1.length : Int)))) then obind (ix a1 i36) fun x40 => obind (ix b5 i36) fun x42 => obind (d_laws_eqType fu x40 x42) fun x44 => bif (!x44) then some (false) else k1 (w64 (i36 + 1)) else some (true)
def d_laws_eqTypeS_L1 (fu : Nat)  (a1 : List Typ) (b5 : List Typ) : Nat → Int → Option (Bool)
  | 0 => fun _ => none
  | n + 1 => d_laws_eqTypeS_L1_B fu a1 b5 (d_laws_eqTypeS_L1 fu a1 b5 n)
theorem d_laws_eqTypeS_L1_s (fu : Nat)  (a1 : List Typ) (b5 : List Typ) (n : Nat) : d_laws_eqTypeS_L1 fu a1 b5 (n + 1) = d_laws_eqTypeS_L1_B fu a1 b5 (d_laws_eqTypeS_L1 fu a1 b5 n) := rfl

def d_laws_eqTypeS (fu : Nat) (a1 : List Typ) (b5 : List Typ) : Option (Bool) :=
  bif (((a1.length : Int)) != ((b5.length : Int))) then some (false) else d_laws_eqTypeS_L1 fu a1 b5 fu 0

def d_laws_eqItem (fu : Nat) (a1 : Item) (b2 : Item) : Option (Bool) :=
  bif (a1.fId != b2.fId) then some (false) else bif (a1.fW != b2.fW) then some (false) else bif (a1.fH != b2.fH) then some (false) else bif (a1.fD != b2.fD) then some (false) else bif (a1.fGram != b2.fGram) then some (false) else bif (a1.fClass != b2.fClass) then some (false) else bif (a1.fCount != b2.fCount) then some (false) else some (true)

def d_laws_eqItemS_L1_B (fu : Nat)  (a1 : List Item) (b5 : List Item) (k1 : Int → Option (Bool)) (i36 : Int) : Option (Bool) :=
  bif (decide (i36 < ((a1.length : Int)))) then obind (ix a1 i36) fun x40 => obind (ix b5 i36) fun x42 => obind (d_laws_eqItem fu x40 x42) fun x44 => bif (!x44) then some (false) else k1 (w64 (i36 + 1)) else some (true)
def d_laws_eqItemS_L1 (fu : Nat)  (a1 : List Item) (b5 : List Item) : Nat → Int → Option (Bool)
  | 0 => fun _ => none
  | n + 1 => d_laws_eqItemS_L1_B fu a1 b5 (d_laws_eqItemS_L1 fu a1 b5 n)
theorem d_laws_eqItemS_L1_s (fu : Nat)  (a1 : List Item) (b5 : List Item) (n : Nat) : d_laws_eqItemS_L1 fu a1 b5 (n + 1) = d_laws_eqItemS_L1_B fu a1 b5 (d_laws_eqItemS_L1 fu a1 b5 n) := rfl

def d_laws_eqItemS (fu : Nat) (a1 : List Item) (b5 : List Item) : Option (Bool) :=
  bif (((a1.length : Int)) != ((b5.length : Int))) then some (false) else d_laws_eqItemS_L1 fu a1 b5 fu 0

def d_laws_eqRequest (fu : Nat) (a1 : Request) (b5 : Request) : Option (Bool) :=
  bif (a1.fWay != b5.fWay) then some (false) else obind (d_laws_eqPallet fu a1.fPallet b5.fPallet) fun x34 => bif (!x34) then some (false) else bif (a1.fClasses != b5.fClasses) then some (false) else obind (d_laws_eqPairS fu a1.fPairs b5.fPairs) fun x40 => bif (!x40) then some (false) else obind (d_laws_eqTypeS fu a1.fTypes b5.fTypes) fun x45 => bif (!x45) then some (false) else bif (a1.fMaster != b5.fMaster) then some (false) else obind (d_laws_eqItemS fu a1.fItems b5.fItems) fun x51 => bif (!x51) then some (false) else some (true)

def d_laws_markPairS_L1_B (fu : Nat)   (k1 : List Pair → Int → Int → Option (Int × (List Pair))) (x32 : List Pair) (kv35 : Int) (i36 : Int) : Option (Int × (List Pair)) :=
  bif (decide (i36 < ((x32.length : Int)))) then obind (ix x32 i36) fun x39 => obind (ix (setx x32 i36 ({ x39 with fA := kv35 })) i36) fun x43 => k1 (setx (setx x32 i36 ({ x39 with fA := kv35 })) i36 ({ x43 with fB := w64 (kv35 + 1) })) (w64 ((w64 (kv35 + 1)) + 1)) (w64 (i36 + 1)) else some (kv35, x32)
def d_laws_markPairS_L1 (fu : Nat)   : Nat → List Pair → Int → Int → Option (Int × (List Pair))
  | 0 => fun _ _ _ => none
  | n + 1 => d_laws_markPairS_L1_B fu  (d_laws_markPairS_L1 fu  n)
theorem d_laws_markPairS_L1_s (fu : Nat)   (n : Nat) : d_laws_markPairS_L1 fu  (n + 1) = d_laws_markPairS_L1_B fu  (d_laws_markPairS_L1 fu  n) := rfl

def d_laws_markPairS (fu : Nat) (a1 : List Pair) (kv5 : Int) : Option (Int × (List Pair)) :=
  d_laws_markPairS_L1 fu fu a1 kv5 0

def d_laws_markTypeS_L1_B (fu : Nat)   (k1 : List Typ → Int → Int → Option (Int × (List Typ))) (x72 : List Typ) (kv75 : Int) (i76 : Int) : Option (Int × (List Typ)) :=
  bif (decide (i76 < ((x72.length : Int)))) then obind (ix x72 i76) fun x79 => obind (ix (setx x72 i76 ({ x79 with fId := kv75 })) i76) fun x83 => obind (ix (setx (setx x72 i76 ({ x79 with fId := kv75 })) i76 ({ x83 with fW := w64 (kv75 + 1) })) i76) fun x87 => obind (ix (setx (setx (setx x72 i76 ({ x79 with fId := kv75 })) i76 ({ x83 with fW := w64 (kv75 + 1) })) i76 ({ x87 with fH := w64 ((w64 (kv75 + 1)) + 1) })) i76) fun x91 => obind (ix (setx (setx (setx (setx x72 i76 ({ x79 with fId := kv75 })) i76 ({ x83 with fW := w64 (kv75 + 1) })) i76 ({ x87 with fH := w64 ((w64 (kv75 + 1)) + 1) })) i76 ({ x91 with fD := w64 ((w64 ((w64 (kv75 + 1)) + 1)) + 1) })) i76) fun x95 => obind (ix (setx (setx (setx (setx (setx x72 i76 ({ x79 with fId := kv75 })) i76 ({ x83 with fW := w64 (kv75 + 1) })) i76 ({ x87 with fH := w64 ((w64 (kv75 + 1)) + 1) })) i76 ({ x91 with fD := w64 ((w64 ((w64 (kv75 + 1)) + 1)) + 1) })) i76 ({ x95 with fTare := w64 ((w64 ((w64 ((w64 (kv75 + 1)) + 1)) + 1)) + 1) })) i76) fun x99 => obind (ix (setx (setx (setx (setx (setx (setx x72 i76 ({ x79 with fId := kv75 })) i76 ({ x83 with fW := w64 (kv75 + 1) })) i76 ({ x87 with fH := w64 ((w64 (kv75 + 1)) + 1) })) i76 ({ x91 with fD := w64 ((w64 ((w64 (kv75 + 1)) + 1)) + 1) })) i76 ({ x95 with fTare := w64 ((w64 ((w64 ((w64 (kv75 + 1)) + 1)) + 1)) + 1) })) i76 ({ x99 with fGram := w64 ((w64 ((w64 ((w64 ((w64 (kv75 + 1)) + 1)) + 1)) + 1)) + 1) })) i76) fun x103 => k1 (setx (setx (setx (setx (setx (setx (setx x72 i76 ({ x79 with fId := kv75 })) i76 ({ x83 with fW := w64 (kv75 + 1) })) i76 ({ x87 with fH := w64 ((w64 (kv75 + 1)) + 1) })) i76 ({ x91 with fD := w64 ((w64 ((w64 (kv75 + 1)) + 1)) + 1) })) i76 ({ x95 with fTare := w64 ((w64 ((w64 ((w64 (kv75 + 1)) + 1)) + 1)) + 1) })) i76 ({ x99 with fGram := w64 ((w64 ((w64 ((w64 ((w64 (kv75 + 1)) + 1)) + 1)) + 1)) + 1) })) i76 ({ x103 with fCost := w64 ((w64 ((w64 ((w64 ((w64 ((w64 (kv75 + 1)) + 1)) + 1)) + 1)) + 1)) + 1) })) (w64 ((w64 ((w64 ((w64 ((w64 ((w64 ((w64 (kv75 + 1)) + 1)) + 1)) + 1)) + 1)) + 1)) + 1)) (w64 (i76 + 1)) else some (kv75, x72)
def d_laws_markTypeS_L1 (fu : Nat)   : Nat → List Typ → Int → Int → Option (Int × (List Typ))
  | 0 => fun _ _ _ => none
  | n + 1 => d_laws_markTypeS_L1_B fu  (d_laws_markTypeS_L1 fu  n)
theorem d_laws_markTypeS_L1_s (fu : Nat)   (n : Nat) : d_laws_markTypeS_L1 fu  (n + 1) = d_laws_markTypeS_L1_B fu  (d_laws_markTypeS_L1 fu  n) := rfl

def d_laws_markTypeS (fu : Nat) (a1 : List Typ) (kv5 : Int) : Option (Int × (List Typ)) :=
  d_laws_markTypeS_L1 fu fu a1 kv5 0

def d_laws_markItemS_L1_B (fu : Nat)   (k1 : List Item → Int → Int → Option (Int × (List Item))) (x72 : List Item) (kv75 : Int) (i76 : Int) : Option (Int × (List Item)) :=
  bif (decide (i76 < ((x72.length : Int)))) then obind (ix x72 i76) fun x79 => obind (ix (setx x72 i76 ({ x79 with fId := kv75 })) i76) fun x83 => obind (ix (setx (setx x72 i76 ({ x79 with fId := kv75 })) i76 ({ x83 with fW := w64 (kv75 + 1) })) i76) fun x87 => obind (ix (setx (setx (setx x72 i76 ({ x79 with fId := kv75 })) i76 ({ x83 with fW := w64 (kv75 + 1) })) i76 ({ x87 with fH := w64 ((w64 (kv75 + 1)) + 1) })) i76) fun x91 => obind (ix (setx (setx (setx (setx x72 i76 ({ x79 with fId := kv75 })) i76 ({ x83 with fW := w64 (kv75 + 1) })) i76 ({ x87 with fH := w64 ((w64 (kv75 + 1)) + 1) })) i76 ({ x91 with fD := w64 ((w64 ((w64 (kv75 + 1)) + 1)) + 1) })) i76) fun x95 => obind (ix (setx (setx (setx (setx (setx x72 i76 ({ x79 with fId := kv75 })) i76 ({ x83 with fW := w64 (kv75 + 1) })) i76 ({ x87 with fH := w64 ((w64 (kv75 + 1)) + 1) })) i76 ({ x91 with fD := w64 ((w64 ((w64 (kv75 + 1)) + 1)) + 1) })) i76 ({ x95 with fGram := w64 ((w64 ((w64 ((w64 (kv75 + 1)) + 1)) + 1)) + 1) })) i76) fun x99 => obind (ix (setx (setx (setx (setx (setx (setx x72 i76 ({ x79 with fId := kv75 })) i76 ({ x83 with fW := w64 (kv75 + 1) })) i76 ({ x87 with fH := w64 ((w64 (kv75 + 1)) + 1) })) i76 ({ x91 with fD := w64 ((w64 ((w64 (kv75 + 1)) + 1)) + 1) })) i76 ({ x95 with fGram := w64 ((w64 ((w64 ((w64 (kv75 + 1)) + 1)) + 1)) + 1) })) i76 ({ x99 with fClass := w64 ((w64 ((w64 ((w64 ((w64 (kv75 + 1)) + 1)) + 1)) + 1)) + 1) })) i76) fun x103 => k1 (setx (setx (setx (setx (setx (setx (setx x72 i76 ({ x79 with fId := kv75 })) i76 ({ x83 with fW := w64 (kv75 + 1) })) i76 ({ x87 with fH := w64 ((w64 (kv75 + 1)) + 1) })) i76 ({ x91 with fD := w64 ((w64 ((w64 (kv75 + 1)) + 1)) + 1) })) i76 ({ x95 with fGram := w64 ((w64 ((w64 ((w64 (kv75 + 1)) + 1)) + 1)) + 1) })) i76 ({ x99 with fClass := w64 ((w64 ((w64 ((w64 ((w64 (kv75 + 1)) + 1)) + 1)) + 1)) + 1) })) i76 ({ x103 with fCount := w64 ((w64 ((w64 ((w64 ((w64 ((w64 (kv75 + 1)) + 1)) + 1)) + 1)) + 1)) + 1) })) (w64 ((w64 ((w64 ((w64 ((w64 ((w64 ((w64 (kv75 + 1)) + 1)) + 1)) + 1)) + 1)) + 1)) + 1)) (w64 (i76 + 1)) else some (kv75, x72)
def d_laws_markItemS_L1 (fu : Nat)   : Nat → List Item → Int → Int → Option (Int × (List Item))
  | 0 => fun _ _ _ => none
  | n + 1 => d_laws_markItemS_L1_B fu  (d_laws_markItemS_L1 fu  n)
theorem d_laws_markItemS_L1_s (fu : Nat)   (n : Nat) : d_laws_markItemS_L1 fu  (n + 1) = d_laws_markItemS_L1_B fu  (d_laws_markItemS_L1 fu  n) := rfl

def d_laws_markItemS (fu : Nat) (a1 : List Item) (kv5 : Int) : Option (Int × (List Item)) :=
  d_laws_markItemS_L1 fu fu a1 kv5 0

def d_laws_markRequest (fu : Nat) (a1 : Request) (kv5 : Int) : Option (Int × Request) :=
  obind (d_laws_markPairS fu a1.fPairs kv5) fun x18 => obind (d_laws_markTypeS fu a1.fTypes x18.1) fun x25 => obind (d_laws_markItemS fu a1.fItems x25.1) fun x32 => some (x32.1, (⟨a1.fWay, a1.fPallet, a1.fClasses, x18.2, x25.2, a1.fMaster, x32.2⟩ : Request))

def d_laws_markIntS_L1_B (fu : Nat)   (k1 : List Int → Int → Int → Option (Int × (List Int))) (x24 : List Int) (kv27 : Int) (i28 : Int) : Option (Int × (List Int)) :=
  bif (decide (i28 < ((x24.length : Int)))) then obind (ix x24 i28) fun x31 => k1 (setx x24 i28 kv27) (w64 (kv27 + 1)) (w64 (i28 + 1)) else some (kv27, x24)
def d_laws_markIntS_L1 (fu : Nat)   : Nat → List Int → Int → Int → Option (Int × (List Int))
  | 0 => fun _ _ _ => none
  | n + 1 => d_laws_markIntS_L1_B fu  (d_laws_markIntS_L1 fu  n)
theorem d_laws_markIntS_L1_s (fu : Nat)   (n : Nat) : d_laws_markIntS_L1 fu  (n + 1) = d_laws_markIntS_L1_B fu  (d_laws_markIntS_L1 fu  n) := rfl

def d_laws_markIntS (fu : Nat) (a1 : List Int) (kv5 : Int) : Option (Int × (List Int)) :=
  d_laws_markIntS_L1 fu fu a1 kv5 0

def d_laws_markIntSS_L1_B (fu : Nat)   (k1 : List (List Int) → Int → Int → Option (Int × (List (List Int)))) (x61 : List (List Int)) (kv65 : Int) (i66 : Int) : Option (Int × (List (List Int))) :=
  bif (decide (i66 < ((x61.length : Int)))) then obind (ix x61 i66) fun x69 => obind (d_laws_markIntS fu x69 kv65) fun x82 => k1 (setx x61 i66 x82.2) x82.1 (w64 (i66 + 1)) else some (kv65, x61)
def d_laws_markIntSS_L1 (fu : Nat)   : Nat → List (List Int) → Int → Int → Option (Int × (List (List Int)))
  | 0 => fun _ _ _ => none
  | n + 1 => d_laws_markIntSS_L1_B fu  (d_laws_markIntSS_L1 fu  n)
theorem d_laws_markIntSS_L1_s (fu : Nat)   (n : Nat) : d_laws_markIntSS_L1 fu  (n + 1) = d_laws_markIntSS_L1_B fu  (d_laws_markIntSS_L1 fu  n) := rfl

def d_laws_markIntSS (fu : Nat) (a1 : List (List Int)) (kv5 : Int) : Option (Int × (List (List Int))) :=
  d_laws_markIntSS_L1 fu fu a1 kv5 0

def d_laws_heldIntS_L1_B (fu : Nat)  (a1 : List Int) (k1 : Int → Int → Option (Int)) (kv19 : Int) (i20 : Int) : Option (Int) :=
  bif (decide (i20 < ((a1.length : Int)))) then obind (ix a1 i20) fun x23 => bif (x23 != kv19) then some ((-1)) else k1 (w64 (kv19 + 1)) (w64 (i20 + 1)) else some (kv19)
def d_laws_heldIntS_L1 (fu : Nat)  (a1 : List Int) : Nat → Int → Int → Option (Int)
  | 0 => fun _ _ => none
  | n + 1 => d_laws_heldIntS_L1_B fu a1 (d_laws_heldIntS_L1 fu a1 n)
theorem d_laws_heldIntS_L1_s (fu : Nat)  (a1 : List Int) (n : Nat) : d_laws_heldIntS_L1 fu a1 (n + 1) = d_laws_heldIntS_L1_B fu a1 (d_laws_heldIntS_L1 fu a1 n) := rfl

def d_laws_heldIntS (fu : Nat) (a1 : List Int) (kv5 : Int) : Option (Int) :=
  d_laws_heldIntS_L1 fu a1 fu kv5 0

def d_laws_heldIntSS_L1_B (fu : Nat)  (a1 : List (List Int)) (k1 : Int → Int → Option (Int)) (kv41 : Int) (i42 : Int) : Option (Int) :=
  bif (decide (i42 < ((a1.length : Int)))) then obind (ix a1 i42) fun x45 => obind (d_laws_heldIntS fu x45 kv41) fun x54 => bif (decide (x54 < 0)) then some ((-1)) else k1 x54 (w64 (i42 + 1)) else some (kv41)
def d_laws_heldIntSS_L1 (fu : Nat)  (a1 : List (List Int)) : Nat → Int → Int → Option (Int)
  | 0 => fun _ _ => none
  | n + 1 => d_laws_heldIntSS_L1_B fu a1 (d_laws_heldIntSS_L1 fu a1 n)
theorem d_laws_heldIntSS_L1_s (fu : Nat)  (a1 : List (List Int)) (n : Nat) : d_laws_heldIntSS_L1 fu a1 (n + 1) = d_laws_heldIntSS_L1_B fu a1 (d_laws_heldIntSS_L1 fu a1 n) := rfl

def d_laws_heldIntSS (fu : Nat) (a1 : List (List Int)) (kv5 : Int) : Option (Int) :=
  d_laws_heldIntSS_L1 fu a1 fu kv5 0

def d_laws_FnExactRivalBy_J1 (fu : Nat) (aR1 : Request) (aPicks5 : List Int) (x54 : (List (List Int))) (x95 : (List (List Int)))  : Option (Bool) :=
  obind (d_laws_markIntSS fu x95 1) fun x183 => obind (d_laws_heldIntSS fu x183.2 1) fun x190 => bif (decide (x190 < 0)) then some (false) else bif (x190 != x183.1) then some (false) else obind (d_laws_toRequest fu aR1) fun x196 => obind (d_laws_toIntS fu aPicks5) fun x214 => obind (d_impl_RivalBy fu x196 x214) fun x223 => obind (d_laws_eqIntSS fu x223 x54) fun x232 => bif (!x232) then some (false) else obind (d_laws_heldIntSS fu x183.2 1) fun x237 => bif (decide (x237 < 0)) then some (false) else bif (x237 != x183.1) then some (false) else some (true)

def d_laws_FnExactRivalBy (fu : Nat) (aR1 : Request) (aPicks5 : List Int) : Option (Bool) :=
  bif (decide (((aPicks5.length : Int)) > 1048576)) then some (true) else obind (d_laws_szRequest fu aR1 1048576) fun x22 => bif (decide (x22 < 0)) then some (true) else obind (d_laws_toRequest fu aR1) fun x27 => obind (d_laws_toIntS fu aPicks5) fun x45 => obind (d_spec_RivalBy fu x27 x45) fun x54 => obind (d_laws_toRequest fu aR1) fun x63 => obind (d_laws_toIntS fu aPicks5) fun x86 => obind (d_impl_RivalBy fu x63 x86) fun x95 => obind (d_laws_eqIntSS fu x95 x54) fun x104 => bif (!x104) then some (false) else obind (d_laws_toRequest fu aR1) fun x110 => obind (d_laws_eqRequest fu x63 x110) fun x129 => bif (!x129) then some (false) else obind (d_laws_toIntS fu aPicks5) fun x134 => obind (d_laws_eqIntS fu x86 x134) fun x143 => bif (!x143) then some (false) else obind (d_laws_markRequest fu x63 1) fun x149 => obind (d_laws_markIntS fu x86 x149.1) fun x169 => bif (decide (x169.1 < 0)) then some (false) else obind (d_laws_eqIntSS fu x95 x54) fun x244 => bif (!x244) then some (false) else d_laws_FnExactRivalBy_J1 fu aR1 aPicks5 x54 x95

theorem c_laws_eqIntS (fu : Nat) {w0 : World} (a1 : List Int) (b5 : List Int) {v2 : Value} {F3 : List Nat} (hp4 : rd w0 F3 [v2] a1) {v6 : Value} {F7 : List Nat} (hp8 : rd w0 F7 [v6] b5) {r : Bool}
    (h : d_laws_eqIntS fu a1 b5 = some r) :
    Calls Tryz.prog 43 #[v2, v6] w0 fun e w => e = .returned (.bool (r)) ∧ Ext [] w0 w := by
 refine enter (vs := [_, _]) func43 rfl ntmps43 rfl fun a k => ?_
 have m := St.start w0
 unfold d_laws_eqIntS at h
 refine wr (pN 1 k rfl fun a k => nn (wp_seq (wr (pN 1 k rfl fun a k => sv k rfl (r_len (α := Int) hp4 k underlying29 rfl rfl) fun a k => pN 1 k rfl fun a k => sv k rfl (r_len (α := Int) hp8 k underlying29 rfl rfl) fun a k => pN 1 k rfl fun a k => nn (cI h k rfl (fun hb9 h => ?_) fun hb9 h => ?_)))))
 · refine wr (pN 1 k rfl fun a k => nn (wp_ret (rt_then ?_)))
   refine fS h k m rfl rfl
 refine wp_skip (nm_then ?_)
 refine wp_seq (wr (pN 1 k rfl fun a k => nn (wp_block (c_loop (fun n a w => ∃ (i28 : Int), K 26 [(0, v2), (1, v6), (5, .int .i64 i28)] a ∧ St [] w0 w [] ∧ d_laws_eqIntS_L1 fu a1 b5 n i28 = some r) ?_ ?_ fu _ _ ?_))))
 · rintro a w ⟨_, _, _, h⟩
   exact nS h
 · rintro m29 a w27 ⟨i28, k, m, h⟩
   rw [d_laws_eqIntS_L1_s] at h
   unfold d_laws_eqIntS_L1_B at h
   refine wp_seq (wr (pN 2 k rfl fun a k => sv k rfl (r_len (α := Int) hp4 k underlying29 rfl rfl) fun a k => pN 1 k rfl fun a k => nn (cI h k rfl (fun hb30 h => ?_) fun hb30 h => ?_)))
   · refine wp_skip (nm_then ?_)
     refine wp_seq (wp_block (wp_seq (d_go [] mixo m rfl fun w31 hMd => ?_)))
     have m := hMd
     have s := Ext.refl ([] : List Nat) w31
     refine dp k 0 rfl (by kernel_rfl) rfl s (fun _ _ _ => id) rfl fun a k => dp k 1 rfl (by kernel_rfl) rfl s (fun _ _ _ => id) rfl fun a k => oE h fun x32 hx33 h => dt k 2 rfl (by kernel_rfl) rfl s (fun _ _ _ => id) (fun w s => r_ixa hp4 hx33 k ts29 rfl rfl rfl) fun a k => dt k 3 rfl (by kernel_rfl) rfl s (fun _ _ _ => id) (fun w s => r_lde1 hp4 ((hMd.step s).a00 (Enc.rd_lt hp4)) hx33 0 t13 k rfl rfl rfl rfl) fun a k => dp k 4 rfl (by kernel_rfl) rfl s (fun _ _ _ => id) rfl fun a k => dp k 5 rfl (by kernel_rfl) rfl s (fun _ _ _ => id) rfl fun a k => oE h fun x34 hx35 h => dt k 6 rfl (by kernel_rfl) rfl s (fun _ _ _ => id) (fun w s => r_ixa hp8 hx35 k ts29 rfl rfl rfl) fun a k => dt k 7 rfl (by kernel_rfl) rfl s (fun _ _ _ => id) (fun w s => r_lde1 hp8 ((hMd.step s).a00 (Enc.rd_lt hp8)) hx35 0 t13 k rfl rfl rfl rfl) fun a k => ?_
     refine dp k 8 rfl (by kernel_rfl) rfl s (fun _ _ _ => id) rfl fun a k => d_done (by kernel_rfl) ((nm_then ?_))
     refine cI h k rfl (fun hb36 h => ?_) fun hb36 h => ?_
     · refine wr (pN 1 k rfl fun a k => nn (wp_ret (rt_block (rt_then (rt_then (rt_block (rt_then ?_)))))))
       refine fS h k m rfl rfl
     refine wp_skip (nm_block (nm_then ?_))
     refine wp_region_lit (pN 3 k rfl fun a k => nn ?_)
     exact ⟨w64 (i28 + 1), k.keep [0, 1, 5] rfl, m.sel [] rfl (by decide), h⟩
   refine wp_exit (ex_then (ex_then (ex_same (nm_then ?_))))
   refine wr (pN 1 k rfl fun a k => nn (wp_ret (fS h k m rfl rfl)))
 exact ⟨0, k.keep [0, 1, 5] rfl, m.sel [] rfl (by decide), h⟩
theorem c_laws_eqIntSS (fu : Nat) {w0 : World} (a1 : List (List Int)) (b5 : List (List Int)) {v2 : Value} {F3 : List Nat} (hp4 : rd w0 F3 [v2] a1) {v6 : Value} {F7 : List Nat} (hp8 : rd w0 F7 [v6] b5) {r : Bool}
    (h : d_laws_eqIntSS fu a1 b5 = some r) :
    Calls Tryz.prog 25 #[v2, v6] w0 fun e w => e = .returned (.bool (r)) ∧ Ext [] w0 w := by
 refine enter (vs := [_, _]) func25 rfl ntmps25 rfl fun a k => ?_
 have m := St.start w0
 unfold d_laws_eqIntSS at h
 refine wr (pN 1 k rfl fun a k => nn (wp_seq (wr (pN 1 k rfl fun a k => sv k rfl (r_len (α := List Int) hp4 k underlying47 rfl rfl) fun a k => pN 1 k rfl fun a k => sv k rfl (r_len (α := List Int) hp8 k underlying47 rfl rfl) fun a k => pN 1 k rfl fun a k => nn (cI h k rfl (fun hb9 h => ?_) fun hb9 h => ?_)))))
 · refine wr (pN 1 k rfl fun a k => nn (wp_ret (rt_then ?_)))
   refine fS h k m rfl rfl
 refine wp_skip (nm_then ?_)
 refine wp_seq (wr (pN 1 k rfl fun a k => nn (wp_block (c_loop (fun n a w => ∃ (i64 : Int), K 27 [(0, v2), (1, v6), (5, .int .i64 i64)] a ∧ St [] w0 w [] ∧ d_laws_eqIntSS_L1 fu a1 b5 n i64 = some r) ?_ ?_ fu _ _ ?_))))
 · rintro a w ⟨_, _, _, h⟩
   exact nS h
 · rintro m65 a w63 ⟨i64, k, m, h⟩
   rw [d_laws_eqIntSS_L1_s] at h
   unfold d_laws_eqIntSS_L1_B at h
   refine wp_seq (wr (pN 2 k rfl fun a k => sv k rfl (r_len (α := List Int) hp4 k underlying47 rfl rfl) fun a k => pN 1 k rfl fun a k => nn (cI h k rfl (fun hb66 h => ?_) fun hb66 h => ?_)))
   · refine wp_skip (nm_then ?_)
     refine wp_seq (wp_block (wp_seq (d_go [] mixo m rfl fun w67 hMd => ?_)))
     have m := hMd
     have s := Ext.refl ([] : List Nat) w67
     refine dp k 0 rfl (by kernel_rfl) rfl s (fun _ _ _ => id) rfl fun a k => dp k 1 rfl (by kernel_rfl) rfl s (fun _ _ _ => id) rfl fun a k => oE h fun x68 hx69 h => dt k 2 rfl (by kernel_rfl) rfl s (fun _ _ _ => id) (fun w s => r_ixa hp4 hx69 k ts47 rfl rfl rfl) fun a k => ?_
     obtain ⟨G70, cs71, hG72, hr73, hp74, hb75⟩ := rd_get hp4 (ix_some hx69).2.2
     obtain ⟨v76, rfl⟩ : ∃ v, cs71 = [v] := by obtain ⟨_, _, hq, _⟩ := hr73; exact ⟨_, hq⟩
     refine dt k 3 rfl (by kernel_rfl) rfl s (fun _ _ _ => id) (fun w s => r_ld1 t129 (hp74.agr ((hMd.step s).a00 (Enc.rd_lt hp4)) hb75) k rfl rfl) fun a k => dp k 4 rfl (by kernel_rfl) rfl s (fun _ _ _ => id) rfl fun a k => dp k 5 rfl (by kernel_rfl) rfl s (fun _ _ _ => id) rfl fun a k => oE h fun x77 hx78 h => dt k 6 rfl (by kernel_rfl) rfl s (fun _ _ _ => id) (fun w s => r_ixa hp8 hx78 k ts47 rfl rfl rfl) fun a k => ?_
     obtain ⟨G79, cs80, hG81, hr82, hp83, hb84⟩ := rd_get hp8 (ix_some hx78).2.2
     obtain ⟨v85, rfl⟩ : ∃ v, cs80 = [v] := by obtain ⟨_, _, hq, _⟩ := hr82; exact ⟨_, hq⟩
     refine dt k 7 rfl (by kernel_rfl) rfl s (fun _ _ _ => id) (fun w s => r_ld1 t129 (hp83.agr ((hMd.step s).a00 (Enc.rd_lt hp8)) hb84) k rfl rfl) fun a k => d_one 8 (by kernel_rfl) rfl (oE h fun x86 hx87 h => cE k m call43 rfl rfl rfl (c_laws_eqIntS fu _ _ (Enc.rd_agr hr73 (m.a00 (Enc.rd_lt hr73))) (Enc.rd_agr hr82 (m.a00 (Enc.rd_lt hr82))) hx87) fun w89 e a k m => ?_)
     have s := s.trans e (by simp)
     refine wpList_nil ⟨s, ?_⟩
     refine dp k 9 rfl (by kernel_rfl) rfl s (fun _ _ _ => id) rfl fun a k => d_done (by kernel_rfl) ((nm_then ?_))
     refine cI h k rfl (fun hb90 h => ?_) fun hb90 h => ?_
     · refine wr (pN 1 k rfl fun a k => nn (wp_ret (rt_block (rt_then (rt_then (rt_block (rt_then ?_)))))))
       refine fS h k m rfl rfl
     refine wp_skip (nm_block (nm_then ?_))
     refine wp_region_lit (pN 3 k rfl fun a k => nn ?_)
     exact ⟨w64 (i64 + 1), k.keep [0, 1, 5] rfl, m.sel [] rfl (by decide), h⟩
   refine wp_exit (ex_then (ex_then (ex_same (nm_then ?_))))
   refine wr (pN 1 k rfl fun a k => nn (wp_ret (fS h k m rfl rfl)))
 exact ⟨0, k.keep [0, 1, 5] rfl, m.sel [] rfl (by decide), h⟩
theorem c_laws_eqPallet (fu : Nat) {w0 : World} (a1 : Pallet) (b2 : Pallet)  {r : Bool}
    (h : d_laws_eqPallet fu a1 b2 = some r) :
    Calls Tryz.prog 79 #[.agg (Flat.e (a1)).toArray, .agg (Flat.e (b2)).toArray] w0 fun e w => e = .returned (.bool (r)) ∧ Ext [] w0 w := by
 refine enter (vs := [_, _]) func79 rfl ntmps79 rfl fun a k => ?_
 have m := St.start w0
 unfold d_laws_eqPallet at h
 refine wr (s_box (cs := [.int .i64 a1.fW, .int .i64 a1.fD, .int .i64 a1.fH, .int .i64 a1.fGram]) m k rfl rfl rfl rfl rfl rfl fun b3 w5 a k m e hb4 => s_box (cs := [.int .i64 b2.fW, .int .i64 b2.fD, .int .i64 b2.fH, .int .i64 b2.fGram]) m k rfl rfl rfl rfl rfl rfl fun b6 w8 a k m e hb7 => pN 1 k rfl fun a k => nn (wp_seq (wr (sv k rfl (r_fa fa35_0 k rfl rfl) fun a k => sv k rfl (r_ldb t13 m 1 hb4 0 k rfl rfl rfl rfl rfl) fun a k => sv k rfl (r_fa fa35_0 k rfl rfl) fun a k => sv k rfl (r_ldb t13 m 0 hb7 0 k rfl rfl rfl rfl rfl) fun a k => pN 1 k rfl fun a k => nn (cI h k rfl (fun hb9 h => ?_) fun hb9 h => ?_)))))
 · refine wr (pN 1 k rfl fun a k => nn (wp_ret (rt_then ?_)))
   refine fS h k m rfl rfl
 refine wp_skip (nm_then ?_)
 refine wp_seq (wr (sv k rfl (r_fa fa35_1 k rfl rfl) fun a k => sv k rfl (r_ldb t13 m 1 hb4 1 k rfl rfl rfl rfl rfl) fun a k => sv k rfl (r_fa fa35_1 k rfl rfl) fun a k => sv k rfl (r_ldb t13 m 0 hb7 1 k rfl rfl rfl rfl rfl) fun a k => pN 1 k rfl fun a k => nn (cI h k rfl (fun hb10 h => ?_) fun hb10 h => ?_)))
 · refine wr (pN 1 k rfl fun a k => nn (wp_ret (rt_then ?_)))
   refine fS h k m rfl rfl
 refine wp_skip (nm_then ?_)
 refine wp_seq (wr (sv k rfl (r_fa fa35_2 k rfl rfl) fun a k => sv k rfl (r_ldb t13 m 1 hb4 2 k rfl rfl rfl rfl rfl) fun a k => sv k rfl (r_fa fa35_2 k rfl rfl) fun a k => sv k rfl (r_ldb t13 m 0 hb7 2 k rfl rfl rfl rfl rfl) fun a k => pN 1 k rfl fun a k => nn (cI h k rfl (fun hb11 h => ?_) fun hb11 h => ?_)))
 · refine wr (pN 1 k rfl fun a k => nn (wp_ret (rt_then ?_)))
   refine fS h k m rfl rfl
 refine wp_skip (nm_then ?_)
 refine wp_seq (wr (sv k rfl (r_fa fa35_3 k rfl rfl) fun a k => sv k rfl (r_ldb t13 m 1 hb4 3 k rfl rfl rfl rfl rfl) fun a k => sv k rfl (r_fa fa35_3 k rfl rfl) fun a k => sv k rfl (r_ldb t13 m 0 hb7 3 k rfl rfl rfl rfl rfl) fun a k => pN 1 k rfl fun a k => nn (cI h k rfl (fun hb12 h => ?_) fun hb12 h => ?_)))
 · refine wr (pN 1 k rfl fun a k => nn (wp_ret (rt_then ?_)))
   refine fS h k m rfl rfl
 refine wp_skip (nm_then ?_)
 refine wr (pN 1 k rfl fun a k => nn (wp_ret (fS h k m rfl rfl)))
theorem c_laws_eqPair (fu : Nat) {w0 : World} (a1 : Pair) (b2 : Pair)  {r : Bool}
    (h : d_laws_eqPair fu a1 b2 = some r) :
    Calls Tryz.prog 144 #[.agg (Flat.e (a1)).toArray, .agg (Flat.e (b2)).toArray] w0 fun e w => e = .returned (.bool (r)) ∧ Ext [] w0 w := by
 refine enter (vs := [_, _]) func144 rfl ntmps144 rfl fun a k => ?_
 have m := St.start w0
 unfold d_laws_eqPair at h
 refine wr (s_box (cs := [.int .i64 a1.fA, .int .i64 a1.fB]) m k rfl rfl rfl rfl rfl rfl fun b3 w5 a k m e hb4 => s_box (cs := [.int .i64 b2.fA, .int .i64 b2.fB]) m k rfl rfl rfl rfl rfl rfl fun b6 w8 a k m e hb7 => pN 1 k rfl fun a k => nn (wp_seq (wr (sv k rfl (r_fa fa144_0 k rfl rfl) fun a k => sv k rfl (r_ldb t13 m 1 hb4 0 k rfl rfl rfl rfl rfl) fun a k => sv k rfl (r_fa fa144_0 k rfl rfl) fun a k => sv k rfl (r_ldb t13 m 0 hb7 0 k rfl rfl rfl rfl rfl) fun a k => pN 1 k rfl fun a k => nn (cI h k rfl (fun hb9 h => ?_) fun hb9 h => ?_)))))
 · refine wr (pN 1 k rfl fun a k => nn (wp_ret (rt_then ?_)))
   refine fS h k m rfl rfl
 refine wp_skip (nm_then ?_)
 refine wp_seq (wr (sv k rfl (r_fa fa144_1 k rfl rfl) fun a k => sv k rfl (r_ldb t13 m 1 hb4 1 k rfl rfl rfl rfl rfl) fun a k => sv k rfl (r_fa fa144_1 k rfl rfl) fun a k => sv k rfl (r_ldb t13 m 0 hb7 1 k rfl rfl rfl rfl rfl) fun a k => pN 1 k rfl fun a k => nn (cI h k rfl (fun hb10 h => ?_) fun hb10 h => ?_)))
 · refine wr (pN 1 k rfl fun a k => nn (wp_ret (rt_then ?_)))
   refine fS h k m rfl rfl
 refine wp_skip (nm_then ?_)
 refine wr (pN 1 k rfl fun a k => nn (wp_ret (fS h k m rfl rfl)))
theorem c_laws_eqPairS (fu : Nat) {w0 : World} (a1 : List Pair) (b5 : List Pair) {v2 : Value} {F3 : List Nat} (hp4 : rd w0 F3 [v2] a1) {v6 : Value} {F7 : List Nat} (hp8 : rd w0 F7 [v6] b5) {r : Bool}
    (h : d_laws_eqPairS fu a1 b5 = some r) :
    Calls Tryz.prog 80 #[v2, v6] w0 fun e w => e = .returned (.bool (r)) ∧ Ext [] w0 w := by
 refine enter (vs := [_, _]) func80 rfl ntmps80 rfl fun a k => ?_
 have m := St.start w0
 unfold d_laws_eqPairS at h
 refine wr (pN 1 k rfl fun a k => nn (wp_seq (wr (pN 1 k rfl fun a k => sv k rfl (r_len (α := Pair) hp4 k underlying36 rfl rfl) fun a k => pN 1 k rfl fun a k => sv k rfl (r_len (α := Pair) hp8 k underlying36 rfl rfl) fun a k => pN 1 k rfl fun a k => nn (cI h k rfl (fun hb9 h => ?_) fun hb9 h => ?_)))))
 · refine wr (pN 1 k rfl fun a k => nn (wp_ret (rt_then ?_)))
   refine fS h k m rfl rfl
 refine wp_skip (nm_then ?_)
 refine wp_seq (wr (pN 1 k rfl fun a k => nn (wp_block (c_loop (fun n a w => ∃ (i36 : Int), K 27 [(0, v2), (1, v6), (5, .int .i64 i36)] a ∧ St [] w0 w [] ∧ d_laws_eqPairS_L1 fu a1 b5 n i36 = some r) ?_ ?_ fu _ _ ?_))))
 · rintro a w ⟨_, _, _, h⟩
   exact nS h
 · rintro m37 a w35 ⟨i36, k, m, h⟩
   rw [d_laws_eqPairS_L1_s] at h
   unfold d_laws_eqPairS_L1_B at h
   refine wp_seq (wr (pN 2 k rfl fun a k => sv k rfl (r_len (α := Pair) hp4 k underlying36 rfl rfl) fun a k => pN 1 k rfl fun a k => nn (cI h k rfl (fun hb38 h => ?_) fun hb38 h => ?_)))
   · refine wp_skip (nm_then ?_)
     refine wp_seq (wp_block (wp_seq (d_go [] mixo m rfl fun w39 hMd => ?_)))
     have m := hMd
     have s := Ext.refl ([] : List Nat) w39
     refine dp k 0 rfl (by kernel_rfl) rfl s (fun _ _ _ => id) rfl fun a k => dp k 1 rfl (by kernel_rfl) rfl s (fun _ _ _ => id) rfl fun a k => oE h fun x40 hx41 h => dt k 2 rfl (by kernel_rfl) rfl s (fun _ _ _ => id) (fun w s => r_ixa hp4 hx41 k ts36 rfl rfl rfl) fun a k => dt k 3 rfl (by kernel_rfl) rfl s (fun _ _ _ => id) (fun w s => r_lde hp4 ((hMd.step s).a00 (Enc.rd_lt hp4)) hx41 ta144 k rfl rfl) fun a k => dp k 4 rfl (by kernel_rfl) rfl s (fun _ _ _ => id) rfl fun a k => dp k 5 rfl (by kernel_rfl) rfl s (fun _ _ _ => id) rfl fun a k => oE h fun x42 hx43 h => dt k 6 rfl (by kernel_rfl) rfl s (fun _ _ _ => id) (fun w s => r_ixa hp8 hx43 k ts36 rfl rfl rfl) fun a k => dt k 7 rfl (by kernel_rfl) rfl s (fun _ _ _ => id) (fun w s => r_lde hp8 ((hMd.step s).a00 (Enc.rd_lt hp8)) hx43 ta144 k rfl rfl) fun a k => d_one 8 (by kernel_rfl) rfl ?_
     refine oE h fun x44 hx45 h => cE k m call144 rfl rfl rfl (c_laws_eqPair fu (x40 : Pair) (x42 : Pair)  hx45) fun w47 e a k m => ?_
     have s := s.trans e (by simp)
     refine wpList_nil ⟨s, ?_⟩
     refine dp k 9 rfl (by kernel_rfl) rfl s (fun _ _ _ => id) rfl fun a k => d_done (by kernel_rfl) ((nm_then ?_))
     refine cI h k rfl (fun hb48 h => ?_) fun hb48 h => ?_
     · refine wr (pN 1 k rfl fun a k => nn (wp_ret (rt_block (rt_then (rt_then (rt_block (rt_then ?_)))))))
       refine fS h k m rfl rfl
     refine wp_skip (nm_block (nm_then ?_))
     refine wp_region_lit (pN 3 k rfl fun a k => nn ?_)
     exact ⟨w64 (i36 + 1), k.keep [0, 1, 5] rfl, m.sel [] rfl (by decide), h⟩
   refine wp_exit (ex_then (ex_then (ex_same (nm_then ?_))))
   refine wr (pN 1 k rfl fun a k => nn (wp_ret (fS h k m rfl rfl)))
 exact ⟨0, k.keep [0, 1, 5] rfl, m.sel [] rfl (by decide), h⟩
theorem c_laws_eqType (fu : Nat) {w0 : World} (a1 : Typ) (b2 : Typ)  {r : Bool}
    (h : d_laws_eqType fu a1 b2 = some r) :
    Calls Tryz.prog 145 #[.agg (Flat.e (a1)).toArray, .agg (Flat.e (b2)).toArray] w0 fun e w => e = .returned (.bool (r)) ∧ Ext [] w0 w := by
 refine enter (vs := [_, _]) func145 rfl ntmps145 rfl fun a k => ?_
 have m := St.start w0
 unfold d_laws_eqType at h
 refine wr (s_box (cs := [.int .i64 a1.fId, .int .i64 a1.fW, .int .i64 a1.fH, .int .i64 a1.fD, .int .i64 a1.fTare, .int .i64 a1.fGram, .int .i64 a1.fCost]) m k rfl rfl rfl rfl rfl rfl fun b3 w5 a k m e hb4 => s_box (cs := [.int .i64 b2.fId, .int .i64 b2.fW, .int .i64 b2.fH, .int .i64 b2.fD, .int .i64 b2.fTare, .int .i64 b2.fGram, .int .i64 b2.fCost]) m k rfl rfl rfl rfl rfl rfl fun b6 w8 a k m e hb7 => pN 1 k rfl fun a k => nn (wp_seq (wr (sv k rfl (r_fa fa92_0 k rfl rfl) fun a k => sv k rfl (r_ldb t13 m 1 hb4 0 k rfl rfl rfl rfl rfl) fun a k => sv k rfl (r_fa fa92_0 k rfl rfl) fun a k => sv k rfl (r_ldb t13 m 0 hb7 0 k rfl rfl rfl rfl rfl) fun a k => pN 1 k rfl fun a k => nn (cI h k rfl (fun hb9 h => ?_) fun hb9 h => ?_)))))
 · refine wr (pN 1 k rfl fun a k => nn (wp_ret (rt_then ?_)))
   refine fS h k m rfl rfl
 refine wp_skip (nm_then ?_)
 refine wp_seq (wr (sv k rfl (r_fa fa92_1 k rfl rfl) fun a k => sv k rfl (r_ldb t13 m 1 hb4 1 k rfl rfl rfl rfl rfl) fun a k => sv k rfl (r_fa fa92_1 k rfl rfl) fun a k => sv k rfl (r_ldb t13 m 0 hb7 1 k rfl rfl rfl rfl rfl) fun a k => pN 1 k rfl fun a k => nn (cI h k rfl (fun hb10 h => ?_) fun hb10 h => ?_)))
 · refine wr (pN 1 k rfl fun a k => nn (wp_ret (rt_then ?_)))
   refine fS h k m rfl rfl
 refine wp_skip (nm_then ?_)
 refine wp_seq (wr (sv k rfl (r_fa fa92_2 k rfl rfl) fun a k => sv k rfl (r_ldb t13 m 1 hb4 2 k rfl rfl rfl rfl rfl) fun a k => sv k rfl (r_fa fa92_2 k rfl rfl) fun a k => sv k rfl (r_ldb t13 m 0 hb7 2 k rfl rfl rfl rfl rfl) fun a k => pN 1 k rfl fun a k => nn (cI h k rfl (fun hb11 h => ?_) fun hb11 h => ?_)))
 · refine wr (pN 1 k rfl fun a k => nn (wp_ret (rt_then ?_)))
   refine fS h k m rfl rfl
 refine wp_skip (nm_then ?_)
 refine wp_seq (wr (sv k rfl (r_fa fa92_3 k rfl rfl) fun a k => sv k rfl (r_ldb t13 m 1 hb4 3 k rfl rfl rfl rfl rfl) fun a k => sv k rfl (r_fa fa92_3 k rfl rfl) fun a k => sv k rfl (r_ldb t13 m 0 hb7 3 k rfl rfl rfl rfl rfl) fun a k => pN 1 k rfl fun a k => nn (cI h k rfl (fun hb12 h => ?_) fun hb12 h => ?_)))
 · refine wr (pN 1 k rfl fun a k => nn (wp_ret (rt_then ?_)))
   refine fS h k m rfl rfl
 refine wp_skip (nm_then ?_)
 refine wp_seq (wr (sv k rfl (r_fa fa92_4 k rfl rfl) fun a k => sv k rfl (r_ldb t13 m 1 hb4 4 k rfl rfl rfl rfl rfl) fun a k => sv k rfl (r_fa fa92_4 k rfl rfl) fun a k => sv k rfl (r_ldb t13 m 0 hb7 4 k rfl rfl rfl rfl rfl) fun a k => pN 1 k rfl fun a k => ?_))
 have k := k.keep [2, 3, 29] rfl
 refine nn (cI h k rfl (fun hb13 h => ?_) fun hb13 h => ?_)
 · refine wr (pN 1 k rfl fun a k => nn (wp_ret (rt_then ?_)))
   refine fS h k m rfl rfl
 refine wp_skip (nm_then ?_)
 refine wp_seq (wr (sv k rfl (r_fa fa92_5 k rfl rfl) fun a k => sv k rfl (r_ldb t13 m 1 hb4 5 k rfl rfl rfl rfl rfl) fun a k => sv k rfl (r_fa fa92_5 k rfl rfl) fun a k => sv k rfl (r_ldb t13 m 0 hb7 5 k rfl rfl rfl rfl rfl) fun a k => pN 1 k rfl fun a k => nn (cI h k rfl (fun hb14 h => ?_) fun hb14 h => ?_)))
 · refine wr (pN 1 k rfl fun a k => nn (wp_ret (rt_then ?_)))
   refine fS h k m rfl rfl
 refine wp_skip (nm_then ?_)
 refine wp_seq (wr (sv k rfl (r_fa fa92_6 k rfl rfl) fun a k => sv k rfl (r_ldb t13 m 1 hb4 6 k rfl rfl rfl rfl rfl) fun a k => sv k rfl (r_fa fa92_6 k rfl rfl) fun a k => sv k rfl (r_ldb t13 m 0 hb7 6 k rfl rfl rfl rfl rfl) fun a k => pN 1 k rfl fun a k => nn (cI h k rfl (fun hb15 h => ?_) fun hb15 h => ?_)))
 · refine wr (pN 1 k rfl fun a k => nn (wp_ret (rt_then ?_)))
   refine fS h k m rfl rfl
 refine wp_skip (nm_then ?_)
 refine wr (pN 1 k rfl fun a k => nn (wp_ret (fS h k m rfl rfl)))
theorem c_laws_eqTypeS (fu : Nat) {w0 : World} (a1 : List Typ) (b5 : List Typ) {v2 : Value} {F3 : List Nat} (hp4 : rd w0 F3 [v2] a1) {v6 : Value} {F7 : List Nat} (hp8 : rd w0 F7 [v6] b5) {r : Bool}
    (h : d_laws_eqTypeS fu a1 b5 = some r) :
    Calls Tryz.prog 81 #[v2, v6] w0 fun e w => e = .returned (.bool (r)) ∧ Ext [] w0 w := by
 refine enter (vs := [_, _]) func81 rfl ntmps81 rfl fun a k => ?_
 have m := St.start w0
 unfold d_laws_eqTypeS at h
 refine wr (pN 1 k rfl fun a k => nn (wp_seq (wr (pN 1 k rfl fun a k => sv k rfl (r_len (α := Typ) hp4 k underlying37 rfl rfl) fun a k => pN 1 k rfl fun a k => sv k rfl (r_len (α := Typ) hp8 k underlying37 rfl rfl) fun a k => pN 1 k rfl fun a k => nn (cI h k rfl (fun hb9 h => ?_) fun hb9 h => ?_)))))
 · refine wr (pN 1 k rfl fun a k => nn (wp_ret (rt_then ?_)))
   refine fS h k m rfl rfl
 refine wp_skip (nm_then ?_)
 refine wp_seq (wr (pN 1 k rfl fun a k => nn (wp_block (c_loop (fun n a w => ∃ (i36 : Int), K 27 [(0, v2), (1, v6), (5, .int .i64 i36)] a ∧ St [] w0 w [] ∧ d_laws_eqTypeS_L1 fu a1 b5 n i36 = some r) ?_ ?_ fu _ _ ?_))))
 · rintro a w ⟨_, _, _, h⟩
   exact nS h
 · rintro m37 a w35 ⟨i36, k, m, h⟩
   rw [d_laws_eqTypeS_L1_s] at h
   unfold d_laws_eqTypeS_L1_B at h
   refine wp_seq (wr (pN 2 k rfl fun a k => sv k rfl (r_len (α := Typ) hp4 k underlying37 rfl rfl) fun a k => pN 1 k rfl fun a k => nn (cI h k rfl (fun hb38 h => ?_) fun hb38 h => ?_)))
   · refine wp_skip (nm_then ?_)
     refine wp_seq (wp_block (wp_seq (d_go [] mixo m rfl fun w39 hMd => ?_)))
     have m := hMd
     have s := Ext.refl ([] : List Nat) w39
     refine dp k 0 rfl (by kernel_rfl) rfl s (fun _ _ _ => id) rfl fun a k => dp k 1 rfl (by kernel_rfl) rfl s (fun _ _ _ => id) rfl fun a k => oE h fun x40 hx41 h => dt k 2 rfl (by kernel_rfl) rfl s (fun _ _ _ => id) (fun w s => r_ixa hp4 hx41 k ts37 rfl rfl rfl) fun a k => dt k 3 rfl (by kernel_rfl) rfl s (fun _ _ _ => id) (fun w s => r_lde hp4 ((hMd.step s).a00 (Enc.rd_lt hp4)) hx41 ta92 k rfl rfl) fun a k => dp k 4 rfl (by kernel_rfl) rfl s (fun _ _ _ => id) rfl fun a k => dp k 5 rfl (by kernel_rfl) rfl s (fun _ _ _ => id) rfl fun a k => oE h fun x42 hx43 h => dt k 6 rfl (by kernel_rfl) rfl s (fun _ _ _ => id) (fun w s => r_ixa hp8 hx43 k ts37 rfl rfl rfl) fun a k => dt k 7 rfl (by kernel_rfl) rfl s (fun _ _ _ => id) (fun w s => r_lde hp8 ((hMd.step s).a00 (Enc.rd_lt hp8)) hx43 ta92 k rfl rfl) fun a k => d_one 8 (by kernel_rfl) rfl ?_
     refine oE h fun x44 hx45 h => cE k m call145 rfl rfl rfl (c_laws_eqType fu (x40 : Typ) (x42 : Typ)  hx45) fun w47 e a k m => ?_
     have s := s.trans e (by simp)
     refine wpList_nil ⟨s, ?_⟩
     refine dp k 9 rfl (by kernel_rfl) rfl s (fun _ _ _ => id) rfl fun a k => d_done (by kernel_rfl) ((nm_then ?_))
     refine cI h k rfl (fun hb48 h => ?_) fun hb48 h => ?_
     · refine wr (pN 1 k rfl fun a k => nn (wp_ret (rt_block (rt_then (rt_then (rt_block (rt_then ?_)))))))
       refine fS h k m rfl rfl
     refine wp_skip (nm_block (nm_then ?_))
     refine wp_region_lit (pN 3 k rfl fun a k => nn ?_)
     exact ⟨w64 (i36 + 1), k.keep [0, 1, 5] rfl, m.sel [] rfl (by decide), h⟩
   refine wp_exit (ex_then (ex_then (ex_same (nm_then ?_))))
   refine wr (pN 1 k rfl fun a k => nn (wp_ret (fS h k m rfl rfl)))
 exact ⟨0, k.keep [0, 1, 5] rfl, m.sel [] rfl (by decide), h⟩
theorem c_laws_eqItem (fu : Nat) {w0 : World} (a1 : Item) (b2 : Item)  {r : Bool}
    (h : d_laws_eqItem fu a1 b2 = some r) :
    Calls Tryz.prog 146 #[.agg (Flat.e (a1)).toArray, .agg (Flat.e (b2)).toArray] w0 fun e w => e = .returned (.bool (r)) ∧ Ext [] w0 w := by
 refine enter (vs := [_, _]) func146 rfl ntmps146 rfl fun a k => ?_
 have m := St.start w0
 unfold d_laws_eqItem at h
 refine wr (s_box (cs := [.int .i64 a1.fId, .int .i64 a1.fW, .int .i64 a1.fH, .int .i64 a1.fD, .int .i64 a1.fGram, .int .i64 a1.fClass, .int .i64 a1.fCount]) m k rfl rfl rfl rfl rfl rfl fun b3 w5 a k m e hb4 => s_box (cs := [.int .i64 b2.fId, .int .i64 b2.fW, .int .i64 b2.fH, .int .i64 b2.fD, .int .i64 b2.fGram, .int .i64 b2.fClass, .int .i64 b2.fCount]) m k rfl rfl rfl rfl rfl rfl fun b6 w8 a k m e hb7 => pN 1 k rfl fun a k => nn (wp_seq (wr (sv k rfl (r_fa fa120_0 k rfl rfl) fun a k => sv k rfl (r_ldb t13 m 1 hb4 0 k rfl rfl rfl rfl rfl) fun a k => sv k rfl (r_fa fa120_0 k rfl rfl) fun a k => sv k rfl (r_ldb t13 m 0 hb7 0 k rfl rfl rfl rfl rfl) fun a k => pN 1 k rfl fun a k => nn (cI h k rfl (fun hb9 h => ?_) fun hb9 h => ?_)))))
 · refine wr (pN 1 k rfl fun a k => nn (wp_ret (rt_then ?_)))
   refine fS h k m rfl rfl
 refine wp_skip (nm_then ?_)
 refine wp_seq (wr (sv k rfl (r_fa fa120_1 k rfl rfl) fun a k => sv k rfl (r_ldb t13 m 1 hb4 1 k rfl rfl rfl rfl rfl) fun a k => sv k rfl (r_fa fa120_1 k rfl rfl) fun a k => sv k rfl (r_ldb t13 m 0 hb7 1 k rfl rfl rfl rfl rfl) fun a k => pN 1 k rfl fun a k => nn (cI h k rfl (fun hb10 h => ?_) fun hb10 h => ?_)))
 · refine wr (pN 1 k rfl fun a k => nn (wp_ret (rt_then ?_)))
   refine fS h k m rfl rfl
 refine wp_skip (nm_then ?_)
 refine wp_seq (wr (sv k rfl (r_fa fa120_2 k rfl rfl) fun a k => sv k rfl (r_ldb t13 m 1 hb4 2 k rfl rfl rfl rfl rfl) fun a k => sv k rfl (r_fa fa120_2 k rfl rfl) fun a k => sv k rfl (r_ldb t13 m 0 hb7 2 k rfl rfl rfl rfl rfl) fun a k => pN 1 k rfl fun a k => nn (cI h k rfl (fun hb11 h => ?_) fun hb11 h => ?_)))
 · refine wr (pN 1 k rfl fun a k => nn (wp_ret (rt_then ?_)))
   refine fS h k m rfl rfl
 refine wp_skip (nm_then ?_)
 refine wp_seq (wr (sv k rfl (r_fa fa120_3 k rfl rfl) fun a k => sv k rfl (r_ldb t13 m 1 hb4 3 k rfl rfl rfl rfl rfl) fun a k => sv k rfl (r_fa fa120_3 k rfl rfl) fun a k => sv k rfl (r_ldb t13 m 0 hb7 3 k rfl rfl rfl rfl rfl) fun a k => pN 1 k rfl fun a k => nn (cI h k rfl (fun hb12 h => ?_) fun hb12 h => ?_)))
 · refine wr (pN 1 k rfl fun a k => nn (wp_ret (rt_then ?_)))
   refine fS h k m rfl rfl
 refine wp_skip (nm_then ?_)
 refine wp_seq (wr (sv k rfl (r_fa fa120_4 k rfl rfl) fun a k => sv k rfl (r_ldb t13 m 1 hb4 4 k rfl rfl rfl rfl rfl) fun a k => sv k rfl (r_fa fa120_4 k rfl rfl) fun a k => sv k rfl (r_ldb t13 m 0 hb7 4 k rfl rfl rfl rfl rfl) fun a k => pN 1 k rfl fun a k => ?_))
 have k := k.keep [2, 3, 29] rfl
 refine nn (cI h k rfl (fun hb13 h => ?_) fun hb13 h => ?_)
 · refine wr (pN 1 k rfl fun a k => nn (wp_ret (rt_then ?_)))
   refine fS h k m rfl rfl
 refine wp_skip (nm_then ?_)
 refine wp_seq (wr (sv k rfl (r_fa fa120_5 k rfl rfl) fun a k => sv k rfl (r_ldb t13 m 1 hb4 5 k rfl rfl rfl rfl rfl) fun a k => sv k rfl (r_fa fa120_5 k rfl rfl) fun a k => sv k rfl (r_ldb t13 m 0 hb7 5 k rfl rfl rfl rfl rfl) fun a k => pN 1 k rfl fun a k => nn (cI h k rfl (fun hb14 h => ?_) fun hb14 h => ?_)))
 · refine wr (pN 1 k rfl fun a k => nn (wp_ret (rt_then ?_)))
   refine fS h k m rfl rfl
 refine wp_skip (nm_then ?_)
 refine wp_seq (wr (sv k rfl (r_fa fa120_6 k rfl rfl) fun a k => sv k rfl (r_ldb t13 m 1 hb4 6 k rfl rfl rfl rfl rfl) fun a k => sv k rfl (r_fa fa120_6 k rfl rfl) fun a k => sv k rfl (r_ldb t13 m 0 hb7 6 k rfl rfl rfl rfl rfl) fun a k => pN 1 k rfl fun a k => nn (cI h k rfl (fun hb15 h => ?_) fun hb15 h => ?_)))
 · refine wr (pN 1 k rfl fun a k => nn (wp_ret (rt_then ?_)))
   refine fS h k m rfl rfl
 refine wp_skip (nm_then ?_)
 refine wr (pN 1 k rfl fun a k => nn (wp_ret (fS h k m rfl rfl)))
theorem c_laws_eqItemS (fu : Nat) {w0 : World} (a1 : List Item) (b5 : List Item) {v2 : Value} {F3 : List Nat} (hp4 : rd w0 F3 [v2] a1) {v6 : Value} {F7 : List Nat} (hp8 : rd w0 F7 [v6] b5) {r : Bool}
    (h : d_laws_eqItemS fu a1 b5 = some r) :
    Calls Tryz.prog 82 #[v2, v6] w0 fun e w => e = .returned (.bool (r)) ∧ Ext [] w0 w := by
 refine enter (vs := [_, _]) func82 rfl ntmps82 rfl fun a k => ?_
 have m := St.start w0
 unfold d_laws_eqItemS at h
 refine wr (pN 1 k rfl fun a k => nn (wp_seq (wr (pN 1 k rfl fun a k => sv k rfl (r_len (α := Item) hp4 k underlying38 rfl rfl) fun a k => pN 1 k rfl fun a k => sv k rfl (r_len (α := Item) hp8 k underlying38 rfl rfl) fun a k => pN 1 k rfl fun a k => nn (cI h k rfl (fun hb9 h => ?_) fun hb9 h => ?_)))))
 · refine wr (pN 1 k rfl fun a k => nn (wp_ret (rt_then ?_)))
   refine fS h k m rfl rfl
 refine wp_skip (nm_then ?_)
 refine wp_seq (wr (pN 1 k rfl fun a k => nn (wp_block (c_loop (fun n a w => ∃ (i36 : Int), K 27 [(0, v2), (1, v6), (5, .int .i64 i36)] a ∧ St [] w0 w [] ∧ d_laws_eqItemS_L1 fu a1 b5 n i36 = some r) ?_ ?_ fu _ _ ?_))))
 · rintro a w ⟨_, _, _, h⟩
   exact nS h
 · rintro m37 a w35 ⟨i36, k, m, h⟩
   rw [d_laws_eqItemS_L1_s] at h
   unfold d_laws_eqItemS_L1_B at h
   refine wp_seq (wr (pN 2 k rfl fun a k => sv k rfl (r_len (α := Item) hp4 k underlying38 rfl rfl) fun a k => pN 1 k rfl fun a k => nn (cI h k rfl (fun hb38 h => ?_) fun hb38 h => ?_)))
   · refine wp_skip (nm_then ?_)
     refine wp_seq (wp_block (wp_seq (d_go [] mixo m rfl fun w39 hMd => ?_)))
     have m := hMd
     have s := Ext.refl ([] : List Nat) w39
     refine dp k 0 rfl (by kernel_rfl) rfl s (fun _ _ _ => id) rfl fun a k => dp k 1 rfl (by kernel_rfl) rfl s (fun _ _ _ => id) rfl fun a k => oE h fun x40 hx41 h => dt k 2 rfl (by kernel_rfl) rfl s (fun _ _ _ => id) (fun w s => r_ixa hp4 hx41 k ts38 rfl rfl rfl) fun a k => dt k 3 rfl (by kernel_rfl) rfl s (fun _ _ _ => id) (fun w s => r_lde hp4 ((hMd.step s).a00 (Enc.rd_lt hp4)) hx41 ta120 k rfl rfl) fun a k => dp k 4 rfl (by kernel_rfl) rfl s (fun _ _ _ => id) rfl fun a k => dp k 5 rfl (by kernel_rfl) rfl s (fun _ _ _ => id) rfl fun a k => oE h fun x42 hx43 h => dt k 6 rfl (by kernel_rfl) rfl s (fun _ _ _ => id) (fun w s => r_ixa hp8 hx43 k ts38 rfl rfl rfl) fun a k => dt k 7 rfl (by kernel_rfl) rfl s (fun _ _ _ => id) (fun w s => r_lde hp8 ((hMd.step s).a00 (Enc.rd_lt hp8)) hx43 ta120 k rfl rfl) fun a k => d_one 8 (by kernel_rfl) rfl ?_
     refine oE h fun x44 hx45 h => cE k m call146 rfl rfl rfl (c_laws_eqItem fu (x40 : Item) (x42 : Item)  hx45) fun w47 e a k m => ?_
     have s := s.trans e (by simp)
     refine wpList_nil ⟨s, ?_⟩
     refine dp k 9 rfl (by kernel_rfl) rfl s (fun _ _ _ => id) rfl fun a k => d_done (by kernel_rfl) ((nm_then ?_))
     refine cI h k rfl (fun hb48 h => ?_) fun hb48 h => ?_
     · refine wr (pN 1 k rfl fun a k => nn (wp_ret (rt_block (rt_then (rt_then (rt_block (rt_then ?_)))))))
       refine fS h k m rfl rfl
     refine wp_skip (nm_block (nm_then ?_))
     refine wp_region_lit (pN 3 k rfl fun a k => nn ?_)
     exact ⟨w64 (i36 + 1), k.keep [0, 1, 5] rfl, m.sel [] rfl (by decide), h⟩
   refine wp_exit (ex_then (ex_then (ex_same (nm_then ?_))))
   refine wr (pN 1 k rfl fun a k => nn (wp_ret (fS h k m rfl rfl)))
 exact ⟨0, k.keep [0, 1, 5] rfl, m.sel [] rfl (by decide), h⟩
theorem c_laws_eqRequest (fu : Nat) {w0 : World} (a1 : Request) (b5 : Request) {cs2 : List Value} {F3 : List Nat} (hp4 : rd w0 F3 cs2 a1) {cs6 : List Value} {F7 : List Nat} (hp8 : rd w0 F7 cs6 b5) {r : Bool}
    (h : d_laws_eqRequest fu a1 b5 = some r) :
    Calls Tryz.prog 21 #[.agg cs2.toArray, .agg cs6.toArray] w0 fun e w => e = .returned (.bool (r)) ∧ Ext [] w0 w := by
 refine enter (vs := [_, _]) func21 rfl ntmps21 rfl fun a k => ?_
 have m := St.start w0
 obtain ⟨v9, F10, v11, F12, v13, F14, rfl, rfl, hf15, hf16, hf17⟩ := hp4
 obtain ⟨v18, F19, v20, F21, v22, F23, rfl, rfl, hf24, hf25, hf26⟩ := hp8
 unfold d_laws_eqRequest at h
 refine wr (s_box (cs := [.int .i64 a1.fWay, .int .i64 a1.fPallet.fW, .int .i64 a1.fPallet.fD, .int .i64 a1.fPallet.fH, .int .i64 a1.fPallet.fGram, .int .i64 a1.fClasses, v9, v11, .int .i64 a1.fMaster, v13]) m k rfl rfl rfl rfl rfl rfl fun b27 w29 a k m e hb28 => s_box (cs := [.int .i64 b5.fWay, .int .i64 b5.fPallet.fW, .int .i64 b5.fPallet.fD, .int .i64 b5.fPallet.fH, .int .i64 b5.fPallet.fGram, .int .i64 b5.fClasses, v18, v20, .int .i64 b5.fMaster, v22]) m k rfl rfl rfl rfl rfl rfl fun b30 w32 a k m e hb31 => pN 1 k rfl fun a k => nn (wp_seq (wr (sv k rfl (r_fa fa40_0 k rfl rfl) fun a k => sv k rfl (r_ldb t13 m 1 hb28 0 k rfl rfl rfl rfl rfl) fun a k => sv k rfl (r_fa fa40_0 k rfl rfl) fun a k => sv k rfl (r_ldb t13 m 0 hb31 0 k rfl rfl rfl rfl rfl) fun a k => pN 1 k rfl fun a k => nn ?_))))
 refine cI h k rfl (fun hb33 h => ?_) fun hb33 h => ?_
 · refine wr (pN 1 k rfl fun a k => nn (wp_ret (rt_then ?_)))
   refine fS h k m rfl rfl
 refine wp_skip (nm_then ?_)
 refine wp_seq (wr (sv k rfl (r_fa fa40_1 k rfl rfl) fun a k => sv k rfl (r_ldB ta35 m 1 hb28 1 k rfl rfl rfl rfl rfl rfl) fun a k => sv k rfl (r_fa fa40_1 k rfl rfl) fun a k => sv k rfl (r_ldB ta35 m 0 hb31 1 k rfl rfl rfl rfl rfl rfl) fun a k => oE h fun x34 hx35 h => cE k m call79 rfl rfl rfl (c_laws_eqPallet fu (a1.fPallet : Pallet) (b5.fPallet : Pallet)  hx35) fun w37 e a k m => pN 1 k rfl fun a k => nn (cI h k rfl (fun hb38 h => ?_) fun hb38 h => ?_)))
 · refine wr (pN 1 k rfl fun a k => nn (wp_ret (rt_then ?_)))
   refine fS h k m rfl rfl
 refine wp_skip (nm_then ?_)
 refine wp_seq (wr (sv k rfl (r_fa fa40_2 k rfl rfl) fun a k => sv k rfl (r_ldb t13 m 1 hb28 5 k rfl rfl rfl rfl rfl) fun a k => sv k rfl (r_fa fa40_2 k rfl rfl) fun a k => sv k rfl (r_ldb t13 m 0 hb31 5 k rfl rfl rfl rfl rfl) fun a k => pN 1 k rfl fun a k => nn (cI h k rfl (fun hb39 h => ?_) fun hb39 h => ?_)))
 · refine wr (pN 1 k rfl fun a k => nn (wp_ret (rt_then ?_)))
   refine fS h k m rfl rfl
 refine wp_skip (nm_then ?_)
 refine wp_seq (wr (sv k rfl (r_fa fa40_3 k rfl rfl) fun a k => sv k rfl (r_ldb t136 m 1 hb28 6 k rfl rfl rfl rfl rfl) fun a k => sv k rfl (r_fa fa40_3 k rfl rfl) fun a k => sv k rfl (r_ldb t136 m 0 hb31 6 k rfl rfl rfl rfl rfl) fun a k => oE h fun x40 hx41 h => cE k m call80 rfl rfl rfl (c_laws_eqPairS fu _ _ (Enc.rd_agr hf15 (m.a00 (Enc.rd_lt hf15))) (Enc.rd_agr hf24 (m.a00 (Enc.rd_lt hf24))) hx41) fun w43 e a k m => pN 1 k rfl fun a k => ?_))
 have k := k.keep [2, 3, 26] rfl
 refine nn (cI h k rfl (fun hb44 h => ?_) fun hb44 h => ?_)
 · refine wr (pN 1 k rfl fun a k => nn (wp_ret (rt_then ?_)))
   refine fS h k m rfl rfl
 refine wp_skip (nm_then ?_)
 refine wp_seq (wr (sv k rfl (r_fa fa40_4 k rfl rfl) fun a k => sv k rfl (r_ldb t137 m 1 hb28 7 k rfl rfl rfl rfl rfl) fun a k => sv k rfl (r_fa fa40_4 k rfl rfl) fun a k => sv k rfl (r_ldb t137 m 0 hb31 7 k rfl rfl rfl rfl rfl) fun a k => oE h fun x45 hx46 h => cE k m call81 rfl rfl rfl (c_laws_eqTypeS fu _ _ (Enc.rd_agr hf16 (m.a00 (Enc.rd_lt hf16))) (Enc.rd_agr hf25 (m.a00 (Enc.rd_lt hf25))) hx46) fun w48 e a k m => pN 1 k rfl fun a k => nn (cI h k rfl (fun hb49 h => ?_) fun hb49 h => ?_)))
 · refine wr (pN 1 k rfl fun a k => nn (wp_ret (rt_then ?_)))
   refine fS h k m rfl rfl
 refine wp_skip (nm_then ?_)
 refine wp_seq (wr (sv k rfl (r_fa fa40_5 k rfl rfl) fun a k => sv k rfl (r_ldb t13 m 1 hb28 8 k rfl rfl rfl rfl rfl) fun a k => sv k rfl (r_fa fa40_5 k rfl rfl) fun a k => sv k rfl (r_ldb t13 m 0 hb31 8 k rfl rfl rfl rfl rfl) fun a k => pN 1 k rfl fun a k => nn (cI h k rfl (fun hb50 h => ?_) fun hb50 h => ?_)))
 · refine wr (pN 1 k rfl fun a k => nn (wp_ret (rt_then ?_)))
   refine fS h k m rfl rfl
 refine wp_skip (nm_then ?_)
 refine wp_seq (wr (sv k rfl (r_fa fa40_6 k rfl rfl) fun a k => sv k rfl (r_ldb t138 m 1 hb28 9 k rfl rfl rfl rfl rfl) fun a k => sv k rfl (r_fa fa40_6 k rfl rfl) fun a k => sv k rfl (r_ldb t138 m 0 hb31 9 k rfl rfl rfl rfl rfl) fun a k => oE h fun x51 hx52 h => cE k m call82 rfl rfl rfl (c_laws_eqItemS fu _ _ (Enc.rd_agr hf17 (m.a00 (Enc.rd_lt hf17))) (Enc.rd_agr hf26 (m.a00 (Enc.rd_lt hf26))) hx52) fun w54 e a k m => pN 1 k rfl fun a k => nn (cI h k rfl (fun hb55 h => ?_) fun hb55 h => ?_)))
 · refine wr (pN 1 k rfl fun a k => nn (wp_ret (rt_then ?_)))
   refine fS h k m rfl rfl
 refine wp_skip (nm_then ?_)
 refine wr (pN 1 k rfl fun a k => nn (wp_ret (fS h k m rfl rfl)))
theorem c_laws_markPairS (fu : Nat) {w0 : World} (a1 : List Pair) (kv5 : Int) {v2 : Value} {F3 : List Nat} (hp4 : ow w0 F3 [v2] a1) {r : Int × (List Pair)}
    (h : d_laws_markPairS fu a1 kv5 = some r) :
    Calls Tryz.prog 85 #[v2, .int .i64 kv5] w0 fun e w => ∃ (H0 : List Nat), e = .returned (.int .i64 r.1) ∧ Ext F3 w0 w ∧ (∀ b ∈ H0, b ∈ F3 ∨ w0.heap.size ≤ b) ∧ ow w H0 [v2] r.2 := by
 refine enter (vs := [_, _]) func85 rfl ntmps85 rfl fun a k => ?_
 have m := St.start1 w0 (Enc.rd_lt (Enc.ow_rd hp4)) (Enc.ow_nd hp4)
 unfold d_laws_markPairS at h
 refine wr (pN 1 k rfl fun a k => nn (wp_seq (wr (pN 1 k rfl fun a k => nn (wp_block (c_loop (fun n a w => ∃ (x32 : List Pair) (u33 : World) (kv35 : Int) (i36 : Int), K 27 [(0, v2), (1, .int .i64 kv35), (5, .int .i64 i36)] a ∧ St F3 w0 w [(F3, u33)] ∧ ow u33 F3 [v2] x32 ∧ d_laws_markPairS_L1 fu  n x32 kv35 i36 = some r) ?_ ?_ fu _ _ ?_))))))
 · rintro a w ⟨_, _, _, _, _, _, _, h⟩
   exact nS h
 · rintro m37 a w31 ⟨x32, u33, kv35, i36, k, m, hf34, h⟩
   rw [d_laws_markPairS_L1_s] at h
   unfold d_laws_markPairS_L1_B at h
   refine wp_seq (wr (pN 2 k rfl fun a k => sv k rfl (r_len (α := Pair) (Enc.ow_rd hf34) k underlying36 rfl rfl) fun a k => pN 1 k rfl fun a k => nn (cI h k rfl (fun hb38 h => ?_) fun hb38 h => ?_)))
   · refine wp_skip (nm_then ?_)
     refine wp_seq (wp_block (wr (pN 3 k rfl fun a k => oE h fun x39 hx40 h => sv k rfl (r_ixa (Enc.ow_rd hf34) hx40 k ts36 rfl rfl rfl) fun a k => sv k rfl (r_fa fa144_0 k rfl rfl) fun a k => s_ste (α := Pair) (sz := 2) (y := { x39 with fA := kv35 }) sizeOf3 hx40 m 0 hf34 0 k rfl rfl rfl rfl rfl rfl rfl rfl rfl rfl rfl rfl fun w41 a k e m hf42 => nn (wr (pN 3 k rfl fun a k => nn (wr (pN 3 k rfl fun a k => oE h fun x43 hx44 h => sv k rfl (r_ixa (Enc.ow_rd hf42) hx44 k ts36 rfl rfl rfl) fun a k => sv k rfl (r_fa fa144_1 k rfl rfl) fun a k => s_ste (α := Pair) (sz := 2) (y := { x43 with fB := w64 (kv35 + 1) }) sizeOf3 hx44 m 0 hf42 1 k rfl rfl rfl rfl rfl rfl rfl rfl rfl rfl rfl rfl fun w45 a k e m hf46 => nn (wp_region_lit (pN 3 k rfl fun a k => wpList_nil (nm_block (nm_then ?_)))))))))))
     refine wp_region_lit (pN 3 k rfl fun a k => ?_)
     have k := k.keep [0, 1, 5] rfl
     refine nn ?_
     exact ⟨setx (setx x32 i36 ({ x39 with fA := kv35 })) i36 ({ x43 with fB := w64 (kv35 + 1) }), w45, w64 ((w64 (kv35 + 1)) + 1), w64 (i36 + 1), k.keep [0, 1, 5] rfl, m.sel [0] rfl (by decide), hf46, h⟩
   refine wp_exit (ex_then (ex_then (ex_same (nm_then ?_))))
   refine wr (pN 2 k rfl fun a k => nn (wp_ret ?_))
   cases h
   exact finR1 k rfl (RV.tmp k rfl) ⟨F3, rfl, m.ext, (fun b hb => m.lo b (mem_fps (i := 0) rfl hb)), (Enc.ow_agr hf34 (m.a 0 rfl))⟩
 exact ⟨a1, w0, kv5, 0, k.keep [0, 1, 5] rfl, m.sel [0] rfl (by decide), hp4, h⟩
theorem c_laws_markTypeS (fu : Nat) {w0 : World} (a1 : List Typ) (kv5 : Int) {v2 : Value} {F3 : List Nat} (hp4 : ow w0 F3 [v2] a1) {r : Int × (List Typ)}
    (h : d_laws_markTypeS fu a1 kv5 = some r) :
    Calls Tryz.prog 86 #[v2, .int .i64 kv5] w0 fun e w => ∃ (H0 : List Nat), e = .returned (.int .i64 r.1) ∧ Ext F3 w0 w ∧ (∀ b ∈ H0, b ∈ F3 ∨ w0.heap.size ≤ b) ∧ ow w H0 [v2] r.2 := by
 refine enter (vs := [_, _]) func86 rfl ntmps86 rfl fun a k => ?_
 have m := St.start1 w0 (Enc.rd_lt (Enc.ow_rd hp4)) (Enc.ow_nd hp4)
 unfold d_laws_markTypeS at h
 refine wr (pN 1 k rfl fun a k => nn (wp_seq (wr (pN 1 k rfl fun a k => nn (wp_block (c_loop (fun n a w => ∃ (x72 : List Typ) (u73 : World) (kv75 : Int) (i76 : Int), K 62 [(0, v2), (1, .int .i64 kv75), (5, .int .i64 i76)] a ∧ St F3 w0 w [(F3, u73)] ∧ ow u73 F3 [v2] x72 ∧ d_laws_markTypeS_L1 fu  n x72 kv75 i76 = some r) ?_ ?_ fu _ _ ?_))))))
 · rintro a w ⟨_, _, _, _, _, _, _, h⟩
   exact nS h
 · rintro m77 a w71 ⟨x72, u73, kv75, i76, k, m, hf74, h⟩
   rw [d_laws_markTypeS_L1_s] at h
   unfold d_laws_markTypeS_L1_B at h
   refine wp_seq (wr (pN 2 k rfl fun a k => sv k rfl (r_len (α := Typ) (Enc.ow_rd hf74) k underlying37 rfl rfl) fun a k => pN 1 k rfl fun a k => nn (cI h k rfl (fun hb78 h => ?_) fun hb78 h => ?_)))
   · refine wp_skip (nm_then ?_)
     refine wp_seq (wp_block (wr (pN 3 k rfl fun a k => oE h fun x79 hx80 h => sv k rfl (r_ixa (Enc.ow_rd hf74) hx80 k ts37 rfl rfl rfl) fun a k => sv k rfl (r_fa fa92_0 k rfl rfl) fun a k => s_ste (α := Typ) (sz := 7) (y := { x79 with fId := kv75 }) sizeOf3 hx80 m 0 hf74 0 k rfl rfl rfl rfl rfl rfl rfl rfl rfl rfl rfl rfl fun w81 a k e m hf82 => nn (wr (pN 3 k rfl fun a k => nn (wr (pN 3 k rfl fun a k => oE h fun x83 hx84 h => sv k rfl (r_ixa (Enc.ow_rd hf82) hx84 k ts37 rfl rfl rfl) fun a k => sv k rfl (r_fa fa92_1 k rfl rfl) fun a k => s_ste (α := Typ) (sz := 7) (y := { x83 with fW := w64 (kv75 + 1) }) sizeOf3 hx84 m 0 hf82 1 k rfl rfl rfl rfl rfl rfl rfl rfl rfl rfl rfl rfl fun w85 a k e m hf86 => nn (wr (pN 3 k rfl fun a k => nn (wr (pN 3 k rfl fun a k => oE h fun x87 hx88 h => ?_)))))))))))
     refine sv k rfl (r_ixa (Enc.ow_rd hf86) hx88 k ts37 rfl rfl rfl) fun a k => sv k rfl (r_fa fa92_2 k rfl rfl) fun a k => s_ste (α := Typ) (sz := 7) (y := { x87 with fH := w64 ((w64 (kv75 + 1)) + 1) }) sizeOf3 hx88 m 0 hf86 2 k rfl rfl rfl rfl rfl rfl rfl rfl rfl rfl rfl rfl fun w89 a k e m hf90 => ?_
     have k := k.keep [0, 1, 5] rfl
     refine nn (wr (pN 3 k rfl fun a k => nn (wr (pN 3 k rfl fun a k => oE h fun x91 hx92 h => sv k rfl (r_ixa (Enc.ow_rd hf90) hx92 k ts37 rfl rfl rfl) fun a k => sv k rfl (r_fa fa92_3 k rfl rfl) fun a k => s_ste (α := Typ) (sz := 7) (y := { x91 with fD := w64 ((w64 ((w64 (kv75 + 1)) + 1)) + 1) }) sizeOf3 hx92 m 0 hf90 3 k rfl rfl rfl rfl rfl rfl rfl rfl rfl rfl rfl rfl fun w93 a k e m hf94 => nn (wr (pN 3 k rfl fun a k => nn (wr (pN 3 k rfl fun a k => oE h fun x95 hx96 h => sv k rfl (r_ixa (Enc.ow_rd hf94) hx96 k ts37 rfl rfl rfl) fun a k => sv k rfl (r_fa fa92_4 k rfl rfl) fun a k => s_ste (α := Typ) (sz := 7) (y := { x95 with fTare := w64 ((w64 ((w64 ((w64 (kv75 + 1)) + 1)) + 1)) + 1) }) sizeOf3 hx96 m 0 hf94 4 k rfl rfl rfl rfl rfl rfl rfl rfl rfl rfl rfl rfl fun w97 a k e m hf98 => nn (wr (pN 3 k rfl fun a k => nn (wr ?_)))))))))))
     refine pN 3 k rfl fun a k => oE h fun x99 hx100 h => sv k rfl (r_ixa (Enc.ow_rd hf98) hx100 k ts37 rfl rfl rfl) fun a k => sv k rfl (r_fa fa92_5 k rfl rfl) fun a k => s_ste (α := Typ) (sz := 7) (y := { x99 with fGram := w64 ((w64 ((w64 ((w64 ((w64 (kv75 + 1)) + 1)) + 1)) + 1)) + 1) }) sizeOf3 hx100 m 0 hf98 5 k rfl rfl rfl rfl rfl rfl rfl rfl rfl rfl rfl rfl fun w101 a k e m hf102 => ?_
     have k := k.keep [0, 1, 5] rfl
     refine nn (wr (pN 3 k rfl fun a k => nn (wr (pN 3 k rfl fun a k => oE h fun x103 hx104 h => sv k rfl (r_ixa (Enc.ow_rd hf102) hx104 k ts37 rfl rfl rfl) fun a k => sv k rfl (r_fa fa92_6 k rfl rfl) fun a k => s_ste (α := Typ) (sz := 7) (y := { x103 with fCost := w64 ((w64 ((w64 ((w64 ((w64 ((w64 (kv75 + 1)) + 1)) + 1)) + 1)) + 1)) + 1) }) sizeOf3 hx104 m 0 hf102 6 k rfl rfl rfl rfl rfl rfl rfl rfl rfl rfl rfl rfl fun w105 a k e m hf106 => nn (wp_region_lit (pN 3 k rfl fun a k => wpList_nil (nm_block (nm_then ?_))))))))
     refine wp_region_lit (pN 3 k rfl fun a k => nn ?_)
     exact ⟨setx (setx (setx (setx (setx (setx (setx x72 i76 ({ x79 with fId := kv75 })) i76 ({ x83 with fW := w64 (kv75 + 1) })) i76 ({ x87 with fH := w64 ((w64 (kv75 + 1)) + 1) })) i76 ({ x91 with fD := w64 ((w64 ((w64 (kv75 + 1)) + 1)) + 1) })) i76 ({ x95 with fTare := w64 ((w64 ((w64 ((w64 (kv75 + 1)) + 1)) + 1)) + 1) })) i76 ({ x99 with fGram := w64 ((w64 ((w64 ((w64 ((w64 (kv75 + 1)) + 1)) + 1)) + 1)) + 1) })) i76 ({ x103 with fCost := w64 ((w64 ((w64 ((w64 ((w64 ((w64 (kv75 + 1)) + 1)) + 1)) + 1)) + 1)) + 1) }), w105, w64 ((w64 ((w64 ((w64 ((w64 ((w64 ((w64 (kv75 + 1)) + 1)) + 1)) + 1)) + 1)) + 1)) + 1), w64 (i76 + 1), k.keep [0, 1, 5] rfl, m.sel [0] rfl (by decide), hf106, h⟩
   refine wp_exit (ex_then (ex_then (ex_same (nm_then ?_))))
   refine wr (pN 2 k rfl fun a k => nn (wp_ret ?_))
   cases h
   exact finR1 k rfl (RV.tmp k rfl) ⟨F3, rfl, m.ext, (fun b hb => m.lo b (mem_fps (i := 0) rfl hb)), (Enc.ow_agr hf74 (m.a 0 rfl))⟩
 exact ⟨a1, w0, kv5, 0, k.keep [0, 1, 5] rfl, m.sel [0] rfl (by decide), hp4, h⟩
theorem c_laws_markItemS (fu : Nat) {w0 : World} (a1 : List Item) (kv5 : Int) {v2 : Value} {F3 : List Nat} (hp4 : ow w0 F3 [v2] a1) {r : Int × (List Item)}
    (h : d_laws_markItemS fu a1 kv5 = some r) :
    Calls Tryz.prog 87 #[v2, .int .i64 kv5] w0 fun e w => ∃ (H0 : List Nat), e = .returned (.int .i64 r.1) ∧ Ext F3 w0 w ∧ (∀ b ∈ H0, b ∈ F3 ∨ w0.heap.size ≤ b) ∧ ow w H0 [v2] r.2 := by
 refine enter (vs := [_, _]) func87 rfl ntmps87 rfl fun a k => ?_
 have m := St.start1 w0 (Enc.rd_lt (Enc.ow_rd hp4)) (Enc.ow_nd hp4)
 unfold d_laws_markItemS at h
 refine wr (pN 1 k rfl fun a k => nn (wp_seq (wr (pN 1 k rfl fun a k => nn (wp_block (c_loop (fun n a w => ∃ (x72 : List Item) (u73 : World) (kv75 : Int) (i76 : Int), K 62 [(0, v2), (1, .int .i64 kv75), (5, .int .i64 i76)] a ∧ St F3 w0 w [(F3, u73)] ∧ ow u73 F3 [v2] x72 ∧ d_laws_markItemS_L1 fu  n x72 kv75 i76 = some r) ?_ ?_ fu _ _ ?_))))))
 · rintro a w ⟨_, _, _, _, _, _, _, h⟩
   exact nS h
 · rintro m77 a w71 ⟨x72, u73, kv75, i76, k, m, hf74, h⟩
   rw [d_laws_markItemS_L1_s] at h
   unfold d_laws_markItemS_L1_B at h
   refine wp_seq (wr (pN 2 k rfl fun a k => sv k rfl (r_len (α := Item) (Enc.ow_rd hf74) k underlying38 rfl rfl) fun a k => pN 1 k rfl fun a k => nn (cI h k rfl (fun hb78 h => ?_) fun hb78 h => ?_)))
   · refine wp_skip (nm_then ?_)
     refine wp_seq (wp_block (wr (pN 3 k rfl fun a k => oE h fun x79 hx80 h => sv k rfl (r_ixa (Enc.ow_rd hf74) hx80 k ts38 rfl rfl rfl) fun a k => sv k rfl (r_fa fa120_0 k rfl rfl) fun a k => s_ste (α := Item) (sz := 7) (y := { x79 with fId := kv75 }) sizeOf3 hx80 m 0 hf74 0 k rfl rfl rfl rfl rfl rfl rfl rfl rfl rfl rfl rfl fun w81 a k e m hf82 => nn (wr (pN 3 k rfl fun a k => nn (wr (pN 3 k rfl fun a k => oE h fun x83 hx84 h => sv k rfl (r_ixa (Enc.ow_rd hf82) hx84 k ts38 rfl rfl rfl) fun a k => sv k rfl (r_fa fa120_1 k rfl rfl) fun a k => s_ste (α := Item) (sz := 7) (y := { x83 with fW := w64 (kv75 + 1) }) sizeOf3 hx84 m 0 hf82 1 k rfl rfl rfl rfl rfl rfl rfl rfl rfl rfl rfl rfl fun w85 a k e m hf86 => nn (wr (pN 3 k rfl fun a k => nn (wr (pN 3 k rfl fun a k => oE h fun x87 hx88 h => ?_)))))))))))
     refine sv k rfl (r_ixa (Enc.ow_rd hf86) hx88 k ts38 rfl rfl rfl) fun a k => sv k rfl (r_fa fa120_2 k rfl rfl) fun a k => s_ste (α := Item) (sz := 7) (y := { x87 with fH := w64 ((w64 (kv75 + 1)) + 1) }) sizeOf3 hx88 m 0 hf86 2 k rfl rfl rfl rfl rfl rfl rfl rfl rfl rfl rfl rfl fun w89 a k e m hf90 => ?_
     have k := k.keep [0, 1, 5] rfl
     refine nn (wr (pN 3 k rfl fun a k => nn (wr (pN 3 k rfl fun a k => oE h fun x91 hx92 h => sv k rfl (r_ixa (Enc.ow_rd hf90) hx92 k ts38 rfl rfl rfl) fun a k => sv k rfl (r_fa fa120_3 k rfl rfl) fun a k => s_ste (α := Item) (sz := 7) (y := { x91 with fD := w64 ((w64 ((w64 (kv75 + 1)) + 1)) + 1) }) sizeOf3 hx92 m 0 hf90 3 k rfl rfl rfl rfl rfl rfl rfl rfl rfl rfl rfl rfl fun w93 a k e m hf94 => nn (wr (pN 3 k rfl fun a k => nn (wr (pN 3 k rfl fun a k => oE h fun x95 hx96 h => sv k rfl (r_ixa (Enc.ow_rd hf94) hx96 k ts38 rfl rfl rfl) fun a k => sv k rfl (r_fa fa120_4 k rfl rfl) fun a k => s_ste (α := Item) (sz := 7) (y := { x95 with fGram := w64 ((w64 ((w64 ((w64 (kv75 + 1)) + 1)) + 1)) + 1) }) sizeOf3 hx96 m 0 hf94 4 k rfl rfl rfl rfl rfl rfl rfl rfl rfl rfl rfl rfl fun w97 a k e m hf98 => nn (wr (pN 3 k rfl fun a k => nn (wr ?_)))))))))))
     refine pN 3 k rfl fun a k => oE h fun x99 hx100 h => sv k rfl (r_ixa (Enc.ow_rd hf98) hx100 k ts38 rfl rfl rfl) fun a k => sv k rfl (r_fa fa120_5 k rfl rfl) fun a k => s_ste (α := Item) (sz := 7) (y := { x99 with fClass := w64 ((w64 ((w64 ((w64 ((w64 (kv75 + 1)) + 1)) + 1)) + 1)) + 1) }) sizeOf3 hx100 m 0 hf98 5 k rfl rfl rfl rfl rfl rfl rfl rfl rfl rfl rfl rfl fun w101 a k e m hf102 => ?_
     have k := k.keep [0, 1, 5] rfl
     refine nn (wr (pN 3 k rfl fun a k => nn (wr (pN 3 k rfl fun a k => oE h fun x103 hx104 h => sv k rfl (r_ixa (Enc.ow_rd hf102) hx104 k ts38 rfl rfl rfl) fun a k => sv k rfl (r_fa fa120_6 k rfl rfl) fun a k => s_ste (α := Item) (sz := 7) (y := { x103 with fCount := w64 ((w64 ((w64 ((w64 ((w64 ((w64 (kv75 + 1)) + 1)) + 1)) + 1)) + 1)) + 1) }) sizeOf3 hx104 m 0 hf102 6 k rfl rfl rfl rfl rfl rfl rfl rfl rfl rfl rfl rfl fun w105 a k e m hf106 => nn (wp_region_lit (pN 3 k rfl fun a k => wpList_nil (nm_block (nm_then ?_))))))))
     refine wp_region_lit (pN 3 k rfl fun a k => nn ?_)
     exact ⟨setx (setx (setx (setx (setx (setx (setx x72 i76 ({ x79 with fId := kv75 })) i76 ({ x83 with fW := w64 (kv75 + 1) })) i76 ({ x87 with fH := w64 ((w64 (kv75 + 1)) + 1) })) i76 ({ x91 with fD := w64 ((w64 ((w64 (kv75 + 1)) + 1)) + 1) })) i76 ({ x95 with fGram := w64 ((w64 ((w64 ((w64 (kv75 + 1)) + 1)) + 1)) + 1) })) i76 ({ x99 with fClass := w64 ((w64 ((w64 ((w64 ((w64 (kv75 + 1)) + 1)) + 1)) + 1)) + 1) })) i76 ({ x103 with fCount := w64 ((w64 ((w64 ((w64 ((w64 ((w64 (kv75 + 1)) + 1)) + 1)) + 1)) + 1)) + 1) }), w105, w64 ((w64 ((w64 ((w64 ((w64 ((w64 ((w64 (kv75 + 1)) + 1)) + 1)) + 1)) + 1)) + 1)) + 1), w64 (i76 + 1), k.keep [0, 1, 5] rfl, m.sel [0] rfl (by decide), hf106, h⟩
   refine wp_exit (ex_then (ex_then (ex_same (nm_then ?_))))
   refine wr (pN 2 k rfl fun a k => nn (wp_ret ?_))
   cases h
   exact finR1 k rfl (RV.tmp k rfl) ⟨F3, rfl, m.ext, (fun b hb => m.lo b (mem_fps (i := 0) rfl hb)), (Enc.ow_agr hf74 (m.a 0 rfl))⟩
 exact ⟨a1, w0, kv5, 0, k.keep [0, 1, 5] rfl, m.sel [0] rfl (by decide), hp4, h⟩
theorem c_laws_markRequest (fu : Nat) {w0 : World} (a1 : Request) (kv5 : Int) {cs2 : List Value} {F3 : List Nat} (hp4 : ow w0 F3 cs2 a1) {r : Int × Request}
    (h : d_laws_markRequest fu a1 kv5 = some r) :
    Calls Tryz.prog 26 #[.agg cs2.toArray, .int .i64 kv5] w0 fun e w => ∃ (H0 : List Nat), e = .returned (.int .i64 r.1) ∧ Ext F3 w0 w ∧ (∀ b ∈ H0, b ∈ F3 ∨ w0.heap.size ≤ b) ∧ ow w H0 cs2 r.2 := by
 refine enter (vs := [_, _]) func26 rfl ntmps26 rfl fun a k => ?_
 have m := St.start1 w0 (Enc.rd_lt (Enc.ow_rd hp4)) (Enc.ow_nd hp4)
 obtain ⟨v6, F7, v9, F10, v12, F13, rfl, rfl, hf8, hf11, hf14, _⟩ := hp4
 have m := m.split2
 have m := m.split2at1
 unfold d_laws_markRequest at h
 refine wr (s_box (cs := [.int .i64 a1.fWay, .int .i64 a1.fPallet.fW, .int .i64 a1.fPallet.fD, .int .i64 a1.fPallet.fH, .int .i64 a1.fPallet.fGram, .int .i64 a1.fClasses, v6, v9, .int .i64 a1.fMaster, v12]) m k rfl rfl rfl rfl rfl rfl fun b15 w17 a k m e hb16 => pN 1 k rfl fun a k => nn (wr (sv k rfl (r_fa fa40_3 k rfl rfl) fun a k => sv k rfl (r_ldb t136 m 0 hb16 6 k rfl rfl rfl rfl rfl) fun a k => pN 1 k rfl fun a k => oE h fun x18 hx19 h => s_call k call85 rfl rfl rfl rfl rfl (c_laws_markPairS fu _ _ (Enc.ow_agr hf8 (m.a 1 rfl)) hx19) fun e20 w21 hR => ?_)))
 obtain ⟨F24, rfl, e, hlo23, hf22⟩ := hR
 refine ⟨_, rfl, fun a k => ?_⟩
 have m := m.mut 1 rfl e _ (fun b hb => ⟨hlo23 b hb, Enc.rd_lt (Enc.ow_rd hf22) b hb⟩) (Enc.ow_nd hf22)
 refine pN 1 k rfl fun a k => nn (wr (sv k rfl (r_fa fa40_4 k rfl rfl) fun a k => sv k rfl (r_ldb t137 m 0 hb16 7 k rfl rfl rfl rfl rfl) fun a k => pN 1 k rfl fun a k => oE h fun x25 hx26 h => s_call k call86 rfl rfl rfl rfl rfl (c_laws_markTypeS fu _ _ (Enc.ow_agr hf11 (m.a 2 rfl)) hx26) fun e27 w28 hR => ?_))
 obtain ⟨F31, rfl, e, hlo30, hf29⟩ := hR
 refine ⟨_, rfl, fun a k => ?_⟩
 have m := m.mut 2 rfl e _ (fun b hb => ⟨hlo30 b hb, Enc.rd_lt (Enc.ow_rd hf29) b hb⟩) (Enc.ow_nd hf29)
 refine pN 1 k rfl fun a k => nn (wr (sv k rfl (r_fa fa40_6 k rfl rfl) fun a k => sv k rfl (r_ldb t138 m 0 hb16 9 k rfl rfl rfl rfl rfl) fun a k => pN 1 k rfl fun a k => oE h fun x32 hx33 h => s_call k call87 rfl rfl rfl rfl rfl (c_laws_markItemS fu _ _ (Enc.ow_agr hf14 (m.a 3 rfl)) hx33) fun e34 w35 hR => ?_))
 obtain ⟨F38, rfl, e, hlo37, hf36⟩ := hR
 refine ⟨_, rfl, fun a k => ?_⟩
 have m := m.mut 3 rfl e _ (fun b hb => ⟨hlo37 b hb, Enc.rd_lt (Enc.ow_rd hf36) b hb⟩) (Enc.ow_nd hf36)
 refine pN 1 k rfl fun a k => nn (wr (pN 2 k rfl fun a k => nn (wp_ret ?_)))
 cases h
 exact finR1 k rfl (RV.tmp k rfl) ⟨F24 ++ (F31 ++ (F38)), rfl, m.ext, (fun b hb => (m.sel [1, 2, 3] rfl (by decide)).lo b (by simpa [fps] using hb)), ⟨_, _, _, _, _, _, rfl, rfl, (Enc.ow_agr hf22 (m.a 1 rfl)), (Enc.ow_agr hf29 (m.a 2 rfl)), (Enc.ow_agr hf36 (m.a 3 rfl)), by simpa [fps] using (m.sel [1, 2, 3] rfl (by decide)).nd⟩⟩
theorem c_laws_markIntS (fu : Nat) {w0 : World} (a1 : List Int) (kv5 : Int) {v2 : Value} {F3 : List Nat} (hp4 : ow w0 F3 [v2] a1) {r : Int × (List Int)}
    (h : d_laws_markIntS fu a1 kv5 = some r) :
    Calls Tryz.prog 46 #[v2, .int .i64 kv5] w0 fun e w => ∃ (H0 : List Nat), e = .returned (.int .i64 r.1) ∧ Ext F3 w0 w ∧ (∀ b ∈ H0, b ∈ F3 ∨ w0.heap.size ≤ b) ∧ ow w H0 [v2] r.2 := by
 refine enter (vs := [_, _]) func46 rfl ntmps46 rfl fun a k => ?_
 have m := St.start1 w0 (Enc.rd_lt (Enc.ow_rd hp4)) (Enc.ow_nd hp4)
 unfold d_laws_markIntS at h
 refine wr (pN 1 k rfl fun a k => nn (wp_seq (wr (pN 1 k rfl fun a k => nn (wp_block (c_loop (fun n a w => ∃ (x24 : List Int) (u25 : World) (kv27 : Int) (i28 : Int), K 19 [(0, v2), (1, .int .i64 kv27), (5, .int .i64 i28)] a ∧ St F3 w0 w [(F3, u25)] ∧ ow u25 F3 [v2] x24 ∧ d_laws_markIntS_L1 fu  n x24 kv27 i28 = some r) ?_ ?_ fu _ _ ?_))))))
 · rintro a w ⟨_, _, _, _, _, _, _, h⟩
   exact nS h
 · rintro m29 a w23 ⟨x24, u25, kv27, i28, k, m, hf26, h⟩
   rw [d_laws_markIntS_L1_s] at h
   unfold d_laws_markIntS_L1_B at h
   refine wp_seq (wr (pN 2 k rfl fun a k => sv k rfl (r_len (α := Int) (Enc.ow_rd hf26) k underlying29 rfl rfl) fun a k => pN 1 k rfl fun a k => nn (cI h k rfl (fun hb30 h => ?_) fun hb30 h => ?_)))
   · refine wp_skip (nm_then ?_)
     refine wp_seq (wp_block (wr (pN 3 k rfl fun a k => oE h fun x31 hx32 h => sv k rfl (r_ixa (Enc.ow_rd hf26) hx32 k ts29 rfl rfl rfl) fun a k => s_ste (α := Int) (sz := 1) (y := kv27) sizeOf3 hx32 m 0 hf26 0 k rfl rfl rfl rfl rfl rfl rfl rfl rfl rfl rfl rfl fun w33 a k e m hf34 => nn (wp_region_lit (pN 3 k rfl fun a k => wpList_nil (nm_block (nm_then ?_)))))))
     refine wp_region_lit (pN 3 k rfl fun a k => nn ?_)
     exact ⟨setx x24 i28 kv27, w33, w64 (kv27 + 1), w64 (i28 + 1), k.keep [0, 1, 5] rfl, m.sel [0] rfl (by decide), hf34, h⟩
   refine wp_exit (ex_then (ex_then (ex_same (nm_then ?_))))
   refine wr (pN 2 k rfl fun a k => nn (wp_ret ?_))
   cases h
   exact finR1 k rfl (RV.tmp k rfl) ⟨F3, rfl, m.ext, (fun b hb => m.lo b (mem_fps (i := 0) rfl hb)), (Enc.ow_agr hf26 (m.a 0 rfl))⟩
 exact ⟨a1, w0, kv5, 0, k.keep [0, 1, 5] rfl, m.sel [0] rfl (by decide), hp4, h⟩
theorem c_laws_markIntSS (fu : Nat) {w0 : World} (a1 : List (List Int)) (kv5 : Int) {v2 : Value} {F3 : List Nat} (hp4 : ow w0 F3 [v2] a1) {r : Int × (List (List Int))}
    (h : d_laws_markIntSS fu a1 kv5 = some r) :
    Calls Tryz.prog 27 #[v2, .int .i64 kv5] w0 fun e w => ∃ (H0 : List Nat), e = .returned (.int .i64 r.1) ∧ Ext F3 w0 w ∧ (∀ b ∈ H0, b ∈ F3 ∨ w0.heap.size ≤ b) ∧ ow w H0 [v2] r.2 := by
 refine enter (vs := [_, _]) func27 rfl ntmps27 rfl fun a k => ?_
 have m := St.start1 w0 (Enc.rd_lt (Enc.ow_rd hp4)) (Enc.ow_nd hp4)
 unfold d_laws_markIntSS at h
 refine wr (pN 1 k rfl fun a k => nn (wp_seq (wr (pN 1 k rfl fun a k => nn (wp_block (c_loop (fun n a w => ∃ (x61 : List (List Int)) (u62 : World) (F64 : List Nat) (kv65 : Int) (i66 : Int), K 19 [(0, v2), (1, .int .i64 kv65), (5, .int .i64 i66)] a ∧ St F3 w0 w [(F64, u62)] ∧ ow u62 F64 [v2] x61 ∧ d_laws_markIntSS_L1 fu  n x61 kv65 i66 = some r) ?_ ?_ fu _ _ ?_))))))
 · rintro a w ⟨_, _, _, _, _, _, _, _, h⟩
   exact nS h
 · rintro m67 a w60 ⟨x61, u62, F64, kv65, i66, k, m, hf63, h⟩
   rw [d_laws_markIntSS_L1_s] at h
   unfold d_laws_markIntSS_L1_B at h
   refine wp_seq (wr (pN 2 k rfl fun a k => sv k rfl (r_len (α := List Int) (Enc.ow_rd hf63) k underlying47 rfl rfl) fun a k => pN 1 k rfl fun a k => nn (cI h k rfl (fun hb68 h => ?_) fun hb68 h => ?_)))
   · refine wp_skip (nm_then ?_)
     refine wp_seq (wp_block (wp_region_lit (pN 2 k rfl fun a k => oE h fun x69 hx70 h => sv k rfl (r_ixa (Enc.ow_rd hf63) hx70 k ts47 rfl rfl rfl) fun a k => ?_)))
     obtain ⟨G71, cs72, hG73, hr74, hp75, hb76⟩ := rd_get (Enc.ow_rd hf63) (ix_some hx70).2.2
     obtain ⟨v77, rfl⟩ : ∃ v, cs72 = [v] := by obtain ⟨_, _, hq, _⟩ := hr74; exact ⟨_, hq⟩
     refine sv k rfl (r_ld1 t129 (hp75.agr (m.a 0 rfl) hb76) k rfl rfl) fun a k => pN 1 k rfl fun a k => ?_
     obtain ⟨A78, B79, m, hH80, hO81⟩ := m.opn 0 rfl hf63 hx70 hp75 rfl (M' := []) rfl
     refine oE h fun x82 hx83 h => s_call k call46 rfl rfl rfl rfl rfl (c_laws_markIntS fu _ _ (Enc.ow_agr hO81 (m.a 1 rfl)) hx83) fun e84 w85 hR => ?_
     obtain ⟨F88, rfl, e, hlo87, hf86⟩ := hR
     refine ⟨_, rfl, fun a k => ?_⟩
     have m := m.mut 1 rfl e _ (fun b hb => ⟨hlo87 b hb, Enc.rd_lt (Enc.ow_rd hf86) b hb⟩) (Enc.ow_nd hf86)
     obtain ⟨F89, m, hf90⟩ := (m.sel [0, 1] rfl (by decide)).cls hH80 hf86
     refine pN 1 k rfl fun a k => wpList_nil (nm_block (nm_then ?_))
     refine wp_region_lit (pN 3 k rfl fun a k => nn ?_)
     exact ⟨setx x61 i66 x82.2, w85, F89, x82.1, w64 (i66 + 1), k.keep [0, 1, 5] rfl, m.sel [0] rfl (by decide), hf90, h⟩
   refine wp_exit (ex_then (ex_then (ex_same (nm_then ?_))))
   refine wr (pN 2 k rfl fun a k => nn (wp_ret ?_))
   cases h
   exact finR1 k rfl (RV.tmp k rfl) ⟨F64, rfl, m.ext, (fun b hb => m.lo b (mem_fps (i := 0) rfl hb)), (Enc.ow_agr hf63 (m.a 0 rfl))⟩
 exact ⟨a1, w0, F3, kv5, 0, k.keep [0, 1, 5] rfl, m.sel [0] rfl (by decide), hp4, h⟩
theorem c_laws_heldIntS (fu : Nat) {w0 : World} (a1 : List Int) (kv5 : Int) {v2 : Value} {F3 : List Nat} (hp4 : rd w0 F3 [v2] a1) {r : Int}
    (h : d_laws_heldIntS fu a1 kv5 = some r) :
    Calls Tryz.prog 47 #[v2, .int .i64 kv5] w0 fun e w => e = .returned (.int .i64 r) ∧ Ext [] w0 w := by
 refine enter (vs := [_, _]) func47 rfl ntmps47 rfl fun a k => ?_
 have m := St.start w0
 unfold d_laws_heldIntS at h
 refine wr (pN 1 k rfl fun a k => nn (wp_seq (wr (pN 1 k rfl fun a k => nn (wp_block (c_loop (fun n a w => ∃ (kv19 : Int) (i20 : Int), K 21 [(0, v2), (1, .int .i64 kv19), (5, .int .i64 i20)] a ∧ St [] w0 w [] ∧ d_laws_heldIntS_L1 fu a1 n kv19 i20 = some r) ?_ ?_ fu _ _ ?_))))))
 · rintro a w ⟨_, _, _, _, h⟩
   exact nS h
 · rintro m21 a w18 ⟨kv19, i20, k, m, h⟩
   rw [d_laws_heldIntS_L1_s] at h
   unfold d_laws_heldIntS_L1_B at h
   refine wp_seq (wr (pN 2 k rfl fun a k => sv k rfl (r_len (α := Int) hp4 k underlying29 rfl rfl) fun a k => pN 1 k rfl fun a k => nn (cI h k rfl (fun hb22 h => ?_) fun hb22 h => ?_)))
   · refine wp_skip (nm_then ?_)
     refine wp_seq (wp_block (wp_seq (wr (pN 2 k rfl fun a k => oE h fun x23 hx24 h => sv k rfl (r_ixa hp4 hx24 k ts29 rfl rfl rfl) fun a k => sv k rfl (r_lde1 hp4 (m.a00 (Enc.rd_lt hp4)) hx24 0 t13 k rfl rfl rfl rfl) fun a k => pN 2 k rfl fun a k => nn (cI h k rfl (fun hb25 h => ?_) fun hb25 h => ?_)))))
     · refine wr (pN 1 k rfl fun a k => nn (wp_ret (rt_then (rt_block (rt_then (rt_then (rt_block (rt_then ?_))))))))
       refine fS h k m rfl rfl
     refine wp_skip (nm_then ?_)
     refine wp_region_lit (pN 3 k rfl fun a k => wpList_nil (nm_block (nm_then ?_)))
     refine wp_region_lit (pN 3 k rfl fun a k => nn ?_)
     exact ⟨w64 (kv19 + 1), w64 (i20 + 1), k.keep [0, 1, 5] rfl, m.sel [] rfl (by decide), h⟩
   refine wp_exit (ex_then (ex_then (ex_same (nm_then ?_))))
   refine wr (pN 2 k rfl fun a k => nn (wp_ret (fS h k m rfl rfl)))
 exact ⟨kv5, 0, k.keep [0, 1, 5] rfl, m.sel [] rfl (by decide), h⟩
theorem c_laws_heldIntSS (fu : Nat) {w0 : World} (a1 : List (List Int)) (kv5 : Int) {v2 : Value} {F3 : List Nat} (hp4 : rd w0 F3 [v2] a1) {r : Int}
    (h : d_laws_heldIntSS fu a1 kv5 = some r) :
    Calls Tryz.prog 28 #[v2, .int .i64 kv5] w0 fun e w => e = .returned (.int .i64 r) ∧ Ext [] w0 w := by
 refine enter (vs := [_, _]) func28 rfl ntmps28 rfl fun a k => ?_
 have m := St.start w0
 unfold d_laws_heldIntSS at h
 refine wr (pN 1 k rfl fun a k => nn (wp_seq (wr (pN 1 k rfl fun a k => nn (wp_block (c_loop (fun n a w => ∃ (kv41 : Int) (i42 : Int), K 21 [(0, v2), (1, .int .i64 kv41), (5, .int .i64 i42)] a ∧ St [] w0 w [] ∧ d_laws_heldIntSS_L1 fu a1 n kv41 i42 = some r) ?_ ?_ fu _ _ ?_))))))
 · rintro a w ⟨_, _, _, _, h⟩
   exact nS h
 · rintro m43 a w40 ⟨kv41, i42, k, m, h⟩
   rw [d_laws_heldIntSS_L1_s] at h
   unfold d_laws_heldIntSS_L1_B at h
   refine wp_seq (wr (pN 2 k rfl fun a k => sv k rfl (r_len (α := List Int) hp4 k underlying47 rfl rfl) fun a k => pN 1 k rfl fun a k => nn (cI h k rfl (fun hb44 h => ?_) fun hb44 h => ?_)))
   · refine wp_skip (nm_then ?_)
     refine wp_seq (wp_block (wr (pN 2 k rfl fun a k => oE h fun x45 hx46 h => sv k rfl (r_ixa hp4 hx46 k ts47 rfl rfl rfl) fun a k => ?_)))
     obtain ⟨G47, cs48, hG49, hr50, hp51, hb52⟩ := rd_get hp4 (ix_some hx46).2.2
     obtain ⟨v53, rfl⟩ : ∃ v, cs48 = [v] := by obtain ⟨_, _, hq, _⟩ := hr50; exact ⟨_, hq⟩
     refine sv k rfl (r_ld1 t129 (hp51.agr (m.a00 (Enc.rd_lt hp4)) hb52) k rfl rfl) fun a k => pN 1 k rfl fun a k => oE h fun x54 hx55 h => cE k m call47 rfl rfl rfl (c_laws_heldIntS fu _ _ (Enc.rd_agr hr50 (m.a00 (Enc.rd_lt hr50))) hx55) fun w57 e a k m => pN 1 k rfl fun a k => nn (wr (pN 2 k rfl fun a k => nn (cI h k rfl (fun hb58 h => ?_) fun hb58 h => ?_)))
     · refine wr (pN 1 k rfl fun a k => nn (wp_ret (rt_block (rt_then (rt_then (rt_block (rt_then ?_)))))))
       refine fS h k m rfl rfl
     refine wp_skip (nm_block (nm_then ?_))
     refine wp_region_lit (pN 3 k rfl fun a k => nn ?_)
     exact ⟨x54, w64 (i42 + 1), k.keep [0, 1, 5] rfl, m.sel [] rfl (by decide), h⟩
   refine wp_exit (ex_then (ex_then (ex_same (nm_then ?_))))
   refine wr (pN 2 k rfl fun a k => nn (wp_ret (fS h k m rfl rfl)))
 exact ⟨kv5, 0, k.keep [0, 1, 5] rfl, m.sel [] rfl (by decide), h⟩
theorem c_laws_FnExactRivalBy (fu : Nat) {w0 : World} (aR1 : Request) (aPicks5 : List Int) {cs2 : List Value} {F3 : List Nat} (hp4 : rd w0 F3 cs2 aR1) {v6 : Value} {F7 : List Nat} (hp8 : rd w0 F7 [v6] aPicks5) {r : Bool}
    (h : d_laws_FnExactRivalBy fu aR1 aPicks5 = some r) :
    Calls Tryz.prog 10 #[.agg cs2.toArray, v6] w0 fun e w => e = .returned (.bool (r)) ∧ Ext [] w0 w := by
 refine enter (vs := [_, _]) func10 rfl ntmps10 rfl fun a k => ?_
 have m := St.start w0
 obtain ⟨v9, F10, v11, F12, v13, F14, rfl, rfl, hf15, hf16, hf17⟩ := hp4
 unfold d_laws_FnExactRivalBy at h
 refine wr (s_box (cs := [.int .i64 aR1.fWay, .int .i64 aR1.fPallet.fW, .int .i64 aR1.fPallet.fD, .int .i64 aR1.fPallet.fH, .int .i64 aR1.fPallet.fGram, .int .i64 aR1.fClasses, v9, v11, .int .i64 aR1.fMaster, v13]) m k rfl rfl rfl rfl rfl rfl fun b18 w20 a k m e hb19 => pN 1 k rfl fun a k => nn (wp_seq (wr (pN 1 k rfl fun a k => sv k rfl (r_len (α := Int) hp8 k underlying29 rfl rfl) fun a k => pN 1 k rfl fun a k => nn (cI h k rfl (fun hb21 h => ?_) fun hb21 h => ?_)))))
 · refine wr (pN 1 k rfl fun a k => nn (wp_ret (rt_then ?_)))
   refine fS h k m rfl rfl
 refine wp_skip (nm_then ?_)
 refine wr (pN 1 k rfl fun a k => nn (wr (sv k rfl (r_ldB ta28 m 0 hb19 0 k rfl rfl rfl rfl rfl rfl) fun a k => pN 1 k rfl fun a k => oE h fun x22 hx23 h => cE k m call15 rfl rfl rfl (c_laws_szRequest fu _ _ (show rd _ _ [.int .i64 aR1.fWay, .int .i64 aR1.fPallet.fW, .int .i64 aR1.fPallet.fD, .int .i64 aR1.fPallet.fH, .int .i64 aR1.fPallet.fGram, .int .i64 aR1.fClasses, v9, v11, .int .i64 aR1.fMaster, v13] (aR1 : Request) from ⟨_, _, _, _, _, _, rfl, rfl, (Enc.rd_agr hf15 (m.a00 (Enc.rd_lt hf15))), (Enc.rd_agr hf16 (m.a00 (Enc.rd_lt hf16))), (Enc.rd_agr hf17 (m.a00 (Enc.rd_lt hf17)))⟩) hx23) fun w25 e a k m => pN 1 k rfl fun a k => nn (wp_seq (wr (pN 2 k rfl fun a k => nn (cI h k rfl (fun hb26 h => ?_) fun hb26 h => ?_)))))))
 · refine wr (pN 1 k rfl fun a k => nn (wp_ret (rt_then ?_)))
   refine fS h k m rfl rfl
 refine wp_skip (nm_then ?_)
 refine wr (sv k rfl (r_ldB ta28 m 0 hb19 0 k rfl rfl rfl rfl rfl rfl) fun a k => oE h fun x27 hx28 h => s_call k call18 rfl rfl rfl rfl rfl (c_laws_toRequest fu _ (show rd _ _ [.int .i64 aR1.fWay, .int .i64 aR1.fPallet.fW, .int .i64 aR1.fPallet.fD, .int .i64 aR1.fPallet.fH, .int .i64 aR1.fPallet.fGram, .int .i64 aR1.fClasses, v9, v11, .int .i64 aR1.fMaster, v13] (aR1 : Request) from ⟨_, _, _, _, _, _, rfl, rfl, (Enc.rd_agr hf15 (m.a00 (Enc.rd_lt hf15))), (Enc.rd_agr hf16 (m.a00 (Enc.rd_lt hf16))), (Enc.rd_agr hf17 (m.a00 (Enc.rd_lt hf17)))⟩) hx28) fun e29 w30 hR => ?_)
 obtain ⟨cs35, F31, rfl, e, hf32, hfr33⟩ := hR
 refine ⟨_, rfl, fun a k => ?_⟩
 have m := m.new e F31 (fun b hb => ⟨hfr33 b hb, Enc.rd_lt (Enc.ow_rd hf32) b hb⟩) (Enc.ow_nd hf32)
 obtain ⟨v36, F37, v39, F40, v42, F43, rfl, rfl, hf38, hf41, hf44, _⟩ := hf32
 have m := m.split2
 have m := m.split2at1
 refine pN 1 k rfl fun a k => oE h fun x45 hx46 h => s_call k call49 rfl rfl rfl rfl rfl (c_laws_toIntS fu _ (Enc.rd_agr hp8 (m.a00 (Enc.rd_lt hp8))) hx46) fun e47 w48 hR => ?_
 obtain ⟨v53, F49, rfl, e, hf50, hfr51⟩ := hR
 refine ⟨_, rfl, fun a k => ?_⟩
 have m := m.new e F49 (fun b hb => ⟨hfr51 b hb, Enc.rd_lt (Enc.ow_rd hf50) b hb⟩) (Enc.ow_nd hf50)
 refine oE h fun x54 hx55 h => s_call k call48 rfl rfl rfl rfl rfl (c_spec_RivalBy fu _ _ (show rd _ _ [.int .i64 x27.fWay, .int .i64 x27.fPallet.fW, .int .i64 x27.fPallet.fD, .int .i64 x27.fPallet.fH, .int .i64 x27.fPallet.fGram, .int .i64 x27.fClasses, v36, v39, .int .i64 x27.fMaster, v42] (x27 : Request) from ⟨_, _, _, _, _, _, rfl, rfl, (Enc.rd_agr (Enc.ow_rd hf38) (m.a 1 rfl)), (Enc.rd_agr (Enc.ow_rd hf41) (m.a 2 rfl)), (Enc.rd_agr (Enc.ow_rd hf44) (m.a 3 rfl))⟩) (Enc.rd_agr (Enc.ow_rd hf50) (m.a 0 rfl)) hx55) fun e56 w57 hR => ?_
 obtain ⟨v62, F58, rfl, e, hf59, hfr60⟩ := hR
 refine ⟨_, rfl, fun a k => ?_⟩
 have m := m.new e F58 (fun b hb => ⟨hfr60 b hb, Enc.rd_lt (Enc.ow_rd hf59) b hb⟩) (Enc.ow_nd hf59)
 refine pN 1 k rfl fun a k => nn (wr (sv k rfl (r_ldB ta28 m 5 hb19 0 k rfl rfl rfl rfl rfl rfl) fun a k => oE h fun x63 hx64 h => s_call k call18 rfl rfl rfl rfl rfl (c_laws_toRequest fu _ (show rd _ _ [.int .i64 aR1.fWay, .int .i64 aR1.fPallet.fW, .int .i64 aR1.fPallet.fD, .int .i64 aR1.fPallet.fH, .int .i64 aR1.fPallet.fGram, .int .i64 aR1.fClasses, v9, v11, .int .i64 aR1.fMaster, v13] (aR1 : Request) from ⟨_, _, _, _, _, _, rfl, rfl, (Enc.rd_agr hf15 (m.a00 (Enc.rd_lt hf15))), (Enc.rd_agr hf16 (m.a00 (Enc.rd_lt hf16))), (Enc.rd_agr hf17 (m.a00 (Enc.rd_lt hf17)))⟩) hx64) fun e65 w66 hR => ?_))
 obtain ⟨cs71, F67, rfl, e, hf68, hfr69⟩ := hR
 refine ⟨_, rfl, fun a k => ?_⟩
 have m := m.new e F67 (fun b hb => ⟨hfr69 b hb, Enc.rd_lt (Enc.ow_rd hf68) b hb⟩) (Enc.ow_nd hf68)
 obtain ⟨v72, F73, v75, F76, v78, F79, rfl, rfl, hf74, hf77, hf80, _⟩ := hf68
 have m := m.split2
 have m := m.split2at1
 refine s_alloc (cs := [.int .i64 0, .int .i64 0, .int .i64 0, .int .i64 0, .int .i64 0, .int .i64 0, .slice none 0 0, .slice none 0 0, .int .i64 0, .slice none 0 0]) m k zeroValue40 rfl rfl rfl rfl rfl fun b81 w83 a k m e hb82 => s_stb (cs' := [.int .i64 x63.fWay, .int .i64 x63.fPallet.fW, .int .i64 x63.fPallet.fD, .int .i64 x63.fPallet.fH, .int .i64 x63.fPallet.fGram, .int .i64 x63.fClasses, v72, v75, .int .i64 x63.fMaster, v78]) sizeOf40 m 0 hb82 0 k rfl rfl rfl rfl rfl rfl rfl rfl rfl rfl (allc rfl (allc rfl (allc rfl (allc rfl (allc rfl (allc rfl (allc (rd_o (Enc.ow_rd hf74)) (allc (rd_o (Enc.ow_rd hf77)) (allc rfl (allc (rd_o (Enc.ow_rd hf80)) alln)))))))))) fun w84 a k e m hb85 => nn (wr (pN 1 k rfl fun a k => oE h fun x86 hx87 h => ?_))
 refine s_call k call49 rfl rfl rfl rfl rfl (c_laws_toIntS fu _ (Enc.rd_agr hp8 (m.a00 (Enc.rd_lt hp8))) hx87) fun e88 w89 hR => ?_
 obtain ⟨v94, F90, rfl, e, hf91, hfr92⟩ := hR
 refine ⟨_, rfl, fun a k => ?_⟩
 have m := m.new e F90 (fun b hb => ⟨hfr92 b hb, Enc.rd_lt (Enc.ow_rd hf91) b hb⟩) (Enc.ow_nd hf91)
 refine pN 1 k rfl fun a k => ?_
 have k := k.keep [1, 2, 6, 7, 8] rfl
 refine nn (wr (sv k rfl (r_ldB ta40 m 1 hb85 0 k rfl rfl rfl rfl rfl rfl) fun a k => pN 1 k rfl fun a k => oE h fun x95 hx96 h => s_call k call50 rfl rfl rfl rfl rfl (c_impl_RivalBy fu _ _ (show rd _ _ [.int .i64 x63.fWay, .int .i64 x63.fPallet.fW, .int .i64 x63.fPallet.fD, .int .i64 x63.fPallet.fH, .int .i64 x63.fPallet.fGram, .int .i64 x63.fClasses, v72, v75, .int .i64 x63.fMaster, v78] (x63 : Request) from ⟨_, _, _, _, _, _, rfl, rfl, (Enc.rd_agr (Enc.ow_rd hf74) (m.a 2 rfl)), (Enc.rd_agr (Enc.ow_rd hf77) (m.a 3 rfl)), (Enc.rd_agr (Enc.ow_rd hf80) (m.a 4 rfl))⟩) (Enc.rd_agr (Enc.ow_rd hf91) (m.a 0 rfl)) hx96) fun e97 w98 hR => ?_))
 obtain ⟨v103, F99, rfl, e, hf100, hfr101⟩ := hR
 refine ⟨_, rfl, fun a k => ?_⟩
 have m := m.new e F99 (fun b hb => ⟨hfr101 b hb, Enc.rd_lt (Enc.ow_rd hf100) b hb⟩) (Enc.ow_nd hf100)
 refine pN 1 k rfl fun a k => nn (wp_seq (wr (pN 2 k rfl fun a k => oE h fun x104 hx105 h => cE k m call25 rfl rfl rfl (c_laws_eqIntSS fu _ _ (Enc.rd_agr (Enc.ow_rd hf100) (m.a 0 rfl)) (Enc.rd_agr (Enc.ow_rd hf59) (m.a 6 rfl)) hx105) fun w107 e a k m => pN 1 k rfl fun a k => nn (cI h k rfl (fun hb108 h => ?_) fun hb108 h => ?_))))
 · refine wr (pN 1 k rfl fun a k => nn (wp_ret (rt_then ?_)))
   refine fS h k m rfl rfl
 refine wp_skip (nm_then ?_)
 refine wp_seq (wp_seq (d_go [] mixo m rfl fun w109 hMd => ?_))
 have m := hMd
 have s := Ext.refl ([] : List Nat) w109
 refine dt k 0 rfl (by kernel_rfl) rfl s (fun _ _ _ => id) (fun w s => r_ldA ta40 (hb85.at ((hMd.step s).a 2 rfl) 0 10 rfl rfl rfl) rfl k rfl rfl) fun a k => dt k 1 rfl (by kernel_rfl) rfl s (fun _ _ _ => id) (fun w s => r_ldA ta28 (hb19.at ((hMd.step s).a 11 rfl) 0 10 rfl rfl rfl) rfl k rfl rfl) fun a k => d_one 2 (by kernel_rfl) rfl (oE h fun x110 hx111 h => s_call k call18 rfl rfl rfl rfl rfl (c_laws_toRequest fu _ (show rd _ _ [.int .i64 aR1.fWay, .int .i64 aR1.fPallet.fW, .int .i64 aR1.fPallet.fD, .int .i64 aR1.fPallet.fH, .int .i64 aR1.fPallet.fGram, .int .i64 aR1.fClasses, v9, v11, .int .i64 aR1.fMaster, v13] (aR1 : Request) from ⟨_, _, _, _, _, _, rfl, rfl, (Enc.rd_agr hf15 (m.a00 (Enc.rd_lt hf15))), (Enc.rd_agr hf16 (m.a00 (Enc.rd_lt hf16))), (Enc.rd_agr hf17 (m.a00 (Enc.rd_lt hf17)))⟩) hx111) fun e112 w113 hR => ?_)
 obtain ⟨cs118, F114, rfl, e, hf115, hfr116⟩ := hR
 refine ⟨_, rfl, fun a k => ?_⟩
 have m := m.new e F114 (fun b hb => ⟨hfr116 b hb, Enc.rd_lt (Enc.ow_rd hf115) b hb⟩) (Enc.ow_nd hf115)
 have hlo119 := fun (y : Nat) (hy : y ∈ F114) => Nat.le_trans s.size (hfr116 y hy)
 obtain ⟨v120, F121, v123, F124, v126, F127, rfl, rfl, hf122, hf125, hf128, _⟩ := hf115
 have m := m.split2
 have m := m.split2at1
 have s := s.trans e (by simp)
 refine wpList_nil ⟨s, ?_⟩
 refine d_one 3 (by kernel_rfl) rfl (oE h fun x129 hx130 h => ?_)
 refine cE k m call21 rfl rfl rfl (c_laws_eqRequest fu _ _ (show rd _ _ [.int .i64 x63.fWay, .int .i64 x63.fPallet.fW, .int .i64 x63.fPallet.fD, .int .i64 x63.fPallet.fH, .int .i64 x63.fPallet.fGram, .int .i64 x63.fClasses, v72, v75, .int .i64 x63.fMaster, v78] (x63 : Request) from ⟨_, _, _, _, _, _, rfl, rfl, (Enc.rd_agr (Enc.ow_rd hf74) (m.a 6 rfl)), (Enc.rd_agr (Enc.ow_rd hf77) (m.a 7 rfl)), (Enc.rd_agr (Enc.ow_rd hf80) (m.a 8 rfl))⟩) (show rd _ _ [.int .i64 x110.fWay, .int .i64 x110.fPallet.fW, .int .i64 x110.fPallet.fD, .int .i64 x110.fPallet.fH, .int .i64 x110.fPallet.fGram, .int .i64 x110.fClasses, v120, v123, .int .i64 x110.fMaster, v126] (x110 : Request) from ⟨_, _, _, _, _, _, rfl, rfl, (Enc.rd_agr (Enc.ow_rd hf122) (m.a 0 rfl)), (Enc.rd_agr (Enc.ow_rd hf125) (m.a 1 rfl)), (Enc.rd_agr (Enc.ow_rd hf128) (m.a 2 rfl))⟩) hx130) fun w132 e a k m => ?_
 have s := s.trans e (by simp)
 refine wpList_nil ⟨s, ?_⟩
 refine dp k 4 rfl (by kernel_rfl) rfl s (fun _ _ _ => id) rfl fun a k => d_done (by kernel_rfl) ((nm_then ?_))
 refine cI h k rfl (fun hb133 h => ?_) fun hb133 h => ?_
 · refine wr (pN 1 k rfl fun a k => nn (wp_ret (rt_then ?_)))
   refine fS h k m rfl rfl
 refine wp_skip (nm_then ?_)
 refine wp_seq (wr (pN 2 k rfl fun a k => oE h fun x134 hx135 h => s_call k call49 rfl rfl rfl rfl rfl (c_laws_toIntS fu _ (Enc.rd_agr hp8 (m.a00 (Enc.rd_lt hp8))) hx135) fun e136 w137 hR => ?_))
 obtain ⟨v142, F138, rfl, e, hf139, hfr140⟩ := hR
 refine ⟨_, rfl, fun a k => ?_⟩
 have m := m.new e F138 (fun b hb => ⟨hfr140 b hb, Enc.rd_lt (Enc.ow_rd hf139) b hb⟩) (Enc.ow_nd hf139)
 refine oE h fun x143 hx144 h => cE k m call43 rfl rfl rfl (c_laws_eqIntS fu _ _ (Enc.rd_agr (Enc.ow_rd hf91) (m.a 5 rfl)) (Enc.rd_agr (Enc.ow_rd hf139) (m.a 0 rfl)) hx144) fun w146 e a k m => pN 1 k rfl fun a k => nn (cI h k rfl (fun hb147 h => ?_) fun hb147 h => ?_)
 · refine wr (pN 1 k rfl fun a k => nn (wp_ret (rt_then ?_)))
   refine fS h k m rfl rfl
 refine wp_skip (nm_then ?_)
 refine wr (pN 1 k rfl fun a k => nn (wr (sv k rfl (r_ldB ta40 m 6 hb85 0 k rfl rfl rfl rfl rfl rfl) fun a k => pN 1 k rfl fun a k => ?_)))
 have hy148 : ow _ (F73 ++ (F76 ++ (F79))) [.int .i64 x63.fWay, .int .i64 x63.fPallet.fW, .int .i64 x63.fPallet.fD, .int .i64 x63.fPallet.fH, .int .i64 x63.fPallet.fGram, .int .i64 x63.fClasses, v72, v75, .int .i64 x63.fMaster, v78] (x63 : Request) := ⟨_, _, _, _, _, _, rfl, rfl, (Enc.ow_agr hf74 (m.a 7 rfl)), (Enc.ow_agr hf77 (m.a 8 rfl)), (Enc.ow_agr hf80 (m.a 9 rfl)), by simpa [fps] using (m.sel [7, 8, 9] rfl (by decide)).nd⟩
 have m := m.sel [7, 8, 9, 0, 1, 2, 3, 4, 5, 6, 10, 11, 12, 13, 14, 15] rfl (by decide)
 have m := m.join3
 refine oE h fun x149 hx150 h => s_call k call26 rfl rfl rfl rfl rfl (c_laws_markRequest fu _ _ hy148 hx150) fun e151 w152 hR => ?_
 obtain ⟨F155, rfl, e, hlo154, hf153⟩ := hR
 refine ⟨_, rfl, fun a k => ?_⟩
 have m := m.mut 0 rfl e _ (fun b hb => ⟨hlo154 b hb, Enc.rd_lt (Enc.ow_rd hf153) b hb⟩) (Enc.ow_nd hf153)
 obtain ⟨v156, F157, v159, F160, v162, F163, heq165, rfl, hf158, hf161, hf164, _⟩ := hf153
 have m := m.toFront 0 rfl
 have m := m.split2
 have m := m.split2at1
 have he166 : v72 = v156 := by have := congrArg (fun l : List Value => l[6]?) heq165; simpa using this
 subst he166
 have he167 : v75 = v159 := by have := congrArg (fun l : List Value => l[7]?) heq165; simpa using this
 subst he167
 have he168 : v78 = v162 := by have := congrArg (fun l : List Value => l[9]?) heq165; simpa using this
 subst he168
 refine pN 1 k rfl fun a k => ?_
 have k := k.keep [1, 2, 6, 8, 9, 10] rfl
 refine nn (wr (pN 2 k rfl fun a k => oE h fun x169 hx170 h => s_call k call46 rfl rfl rfl rfl rfl (c_laws_markIntS fu _ _ (Enc.ow_agr hf91 (m.a 8 rfl)) hx170) fun e171 w172 hR => ?_))
 obtain ⟨F175, rfl, e, hlo174, hf173⟩ := hR
 refine ⟨_, rfl, fun a k => ?_⟩
 have m := m.mut 8 rfl e _ (fun b hb => ⟨hlo174 b hb, Enc.rd_lt (Enc.ow_rd hf173) b hb⟩) (Enc.ow_nd hf173)
 refine pN 1 k rfl fun a k => nn (c_cut (fun a w => K 90 [(1, v6), (2, .pointer (some (⟨b18, 0, none⟩ : Addr))), (6, v62), (9, v103)] a ∧ St [] w0 w [([b18], w20), (F58, w57), (F99, w98)] ∧ d_laws_FnExactRivalBy_J1 fu aR1 aPicks5 x54 x95 = some r) ?_ ?_)
 · rintro a w182 ⟨k, m, h⟩
   unfold d_laws_FnExactRivalBy_J1 at h
   refine wr (pN 1 k rfl fun a k => nn (wr (pN 2 k rfl fun a k => oE h fun x183 hx184 h => s_call k call27 rfl rfl rfl rfl rfl (c_laws_markIntSS fu _ _ (Enc.ow_agr hf100 (m.a 2 rfl)) hx184) fun e185 w186 hR => ?_)))
   obtain ⟨F189, rfl, e, hlo188, hf187⟩ := hR
   refine ⟨_, rfl, fun a k => ?_⟩
   have m := m.mut 2 rfl e _ (fun b hb => ⟨hlo188 b hb, Enc.rd_lt (Enc.ow_rd hf187) b hb⟩) (Enc.ow_nd hf187)
   refine pN 1 k rfl fun a k => nn (wr (pN 1 k rfl fun a k => nn (wr (pN 2 k rfl fun a k => oE h fun x190 hx191 h => cE k m call28 rfl rfl rfl (c_laws_heldIntSS fu _ _ (Enc.rd_agr (Enc.ow_rd hf187) (m.a 2 rfl)) hx191) fun w193 e a k m => pN 1 k rfl fun a k => nn (wp_seq (wr (pN 2 k rfl fun a k => nn (cI h k rfl (fun hb194 h => ?_) fun hb194 h => ?_))))))))
   · refine wr (pN 1 k rfl fun a k => nn (wp_ret (rt_then ?_)))
     refine fS h k m rfl rfl
   refine wp_skip (nm_then ?_)
   refine wp_seq (wr (pN 3 k rfl fun a k => nn (cI h k rfl (fun hb195 h => ?_) fun hb195 h => ?_)))
   · refine wr (pN 1 k rfl fun a k => nn (wp_ret (rt_then ?_)))
     refine fS h k m rfl rfl
   refine wp_skip (nm_then ?_)
   refine wr (sv k rfl (r_ldB ta28 m 0 hb19 0 k rfl rfl rfl rfl rfl rfl) fun a k => oE h fun x196 hx197 h => s_call k call18 rfl rfl rfl rfl rfl (c_laws_toRequest fu _ (show rd _ _ [.int .i64 aR1.fWay, .int .i64 aR1.fPallet.fW, .int .i64 aR1.fPallet.fD, .int .i64 aR1.fPallet.fH, .int .i64 aR1.fPallet.fGram, .int .i64 aR1.fClasses, v9, v11, .int .i64 aR1.fMaster, v13] (aR1 : Request) from ⟨_, _, _, _, _, _, rfl, rfl, (Enc.rd_agr hf15 (m.a00 (Enc.rd_lt hf15))), (Enc.rd_agr hf16 (m.a00 (Enc.rd_lt hf16))), (Enc.rd_agr hf17 (m.a00 (Enc.rd_lt hf17)))⟩) hx197) fun e198 w199 hR => ?_)
   obtain ⟨cs204, F200, rfl, e, hf201, hfr202⟩ := hR
   refine ⟨_, rfl, fun a k => ?_⟩
   have m := m.new e F200 (fun b hb => ⟨hfr202 b hb, Enc.rd_lt (Enc.ow_rd hf201) b hb⟩) (Enc.ow_nd hf201)
   obtain ⟨v205, F206, v208, F209, v211, F212, rfl, rfl, hf207, hf210, hf213, _⟩ := hf201
   have m := m.split2
   have m := m.split2at1
   refine pN 1 k rfl fun a k => oE h fun x214 hx215 h => s_call k call49 rfl rfl rfl rfl rfl (c_laws_toIntS fu _ (Enc.rd_agr hp8 (m.a00 (Enc.rd_lt hp8))) hx215) fun e216 w217 hR => ?_
   obtain ⟨v222, F218, rfl, e, hf219, hfr220⟩ := hR
   refine ⟨_, rfl, fun a k => ?_⟩
   have m := m.new e F218 (fun b hb => ⟨hfr220 b hb, Enc.rd_lt (Enc.ow_rd hf219) b hb⟩) (Enc.ow_nd hf219)
   refine oE h fun x223 hx224 h => s_call k call50 rfl rfl rfl rfl rfl (c_impl_RivalBy fu _ _ (show rd _ _ [.int .i64 x196.fWay, .int .i64 x196.fPallet.fW, .int .i64 x196.fPallet.fD, .int .i64 x196.fPallet.fH, .int .i64 x196.fPallet.fGram, .int .i64 x196.fClasses, v205, v208, .int .i64 x196.fMaster, v211] (x196 : Request) from ⟨_, _, _, _, _, _, rfl, rfl, (Enc.rd_agr (Enc.ow_rd hf207) (m.a 1 rfl)), (Enc.rd_agr (Enc.ow_rd hf210) (m.a 2 rfl)), (Enc.rd_agr (Enc.ow_rd hf213) (m.a 3 rfl))⟩) (Enc.rd_agr (Enc.ow_rd hf219) (m.a 0 rfl)) hx224) fun e225 w226 hR => ?_
   obtain ⟨v231, F227, rfl, e, hf228, hfr229⟩ := hR
   refine ⟨_, rfl, fun a k => ?_⟩
   have m := m.new e F227 (fun b hb => ⟨hfr229 b hb, Enc.rd_lt (Enc.ow_rd hf228) b hb⟩) (Enc.ow_nd hf228)
   refine pN 1 k rfl fun a k => nn (wp_seq (wr (pN 2 k rfl fun a k => oE h fun x232 hx233 h => cE k m call25 rfl rfl rfl (c_laws_eqIntSS fu _ _ (Enc.rd_agr (Enc.ow_rd hf228) (m.a 0 rfl)) (Enc.rd_agr (Enc.ow_rd hf59) (m.a 6 rfl)) hx233) fun w235 e a k m => pN 1 k rfl fun a k => ?_)))
   have k := k.keep [9, 11, 81] rfl
   refine nn (cI h k rfl (fun hb236 h => ?_) fun hb236 h => ?_)
   · refine wr (pN 1 k rfl fun a k => nn (wp_ret (rt_then ?_)))
     refine fS h k m rfl rfl
   refine wp_skip (nm_then ?_)
   refine wr (pN 1 k rfl fun a k => nn (wr (pN 2 k rfl fun a k => oE h fun x237 hx238 h => cE k m call28 rfl rfl rfl (c_laws_heldIntSS fu _ _ (Enc.rd_agr (Enc.ow_rd hf187) (m.a 7 rfl)) hx238) fun w240 e a k m => pN 1 k rfl fun a k => nn (wp_seq (wr (pN 2 k rfl fun a k => nn (cI h k rfl (fun hb241 h => ?_) fun hb241 h => ?_)))))))
   · refine wr (pN 1 k rfl fun a k => nn (wp_ret (rt_then ?_)))
     refine fS h k m rfl rfl
   refine wp_skip (nm_then ?_)
   refine wp_seq (wr (pN 3 k rfl fun a k => nn (cI h k rfl (fun hb242 h => ?_) fun hb242 h => ?_)))
   · refine wr (pN 1 k rfl fun a k => nn (wp_ret (rt_then ?_)))
     refine fS h k m rfl rfl
   refine wp_skip (nm_then ?_)
   refine wr (pN 1 k rfl fun a k => nn (wp_ret (fS h k m rfl rfl)))
 refine wr (pN 3 k rfl fun a k => bsplit (decide (x169.1 < 0)) (fun hb243 => ?_) (fun hb243 => ?_))
 · have h := bif_t hb243 h
   refine rB k 56 rfl hb243 fun k => pN 5 k rfl fun a k => nn (wp_cond_true (k.ev rfl) (wr (pN 1 k rfl fun a k => nn (wp_ret (rt_then ?_)))))
   refine fS h k m rfl rfl
 have h := bif_f hb243 h
 refine rB k 56 rfl hb243 fun k => pN 2 k rfl fun a k => oE h fun x244 hx245 h => cE k m call25 rfl rfl rfl (c_laws_eqIntSS fu _ _ (Enc.rd_agr (Enc.ow_rd hf100) (m.a 7 rfl)) (Enc.rd_agr (Enc.ow_rd hf59) (m.a 10 rfl)) hx245) fun w247 e a k m => pN 2 k rfl fun a k => nn (cI h k rfl (fun hb248 h => ?_) fun hb248 h => ?_)
 · refine wr (pN 1 k rfl fun a k => nn (wp_ret (rt_then ?_)))
   refine fS h k m rfl rfl
 refine wp_skip (nm_then ?_)
 exact ⟨k.keep [1, 2, 6, 9] rfl, m.sel [15, 10, 7] rfl (by decide), h⟩

end Go.Proofs.YthjbcfefkdbgoaaGreat
