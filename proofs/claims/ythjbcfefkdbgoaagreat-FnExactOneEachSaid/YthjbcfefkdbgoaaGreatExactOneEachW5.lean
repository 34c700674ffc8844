/- FnExactOneEach: the walks of functions that the law reaches, part 5. Printed by gen.py. -/
import Derived.Test.YthjbcfefkdbgoaaGreatExactOneEachW4
set_option maxRecDepth 20000
set_option linter.unusedVariables false
namespace Go.Proofs.YthjbcfefkdbgoaaGreat
open Go Go.RowKit

theorem ts47 : TS Tryz.prog 47 1 := ⟨29, Tryz.underlying47, Tryz.sizeOf29⟩
theorem t129 : T1 Tryz.prog 29 := ⟨fun w => by simp [isAgg, run_underlying Tryz.underlying29], Tryz.sizeOf29⟩

def d_laws_eqIntS_L1_B (fu : Nat)  (a1 : List Int) (b5 : List Int) (k1 : Int → Option (Bool)) (i28 : Int) : Option (Bool) :=
  bif (decide (i28 < ((a1.length : Int)))) then obind (ix a1 i28) fun x32 => obind (ix b5 i28) fun x34 => bif (x32 != x34) then some (false) else k1 (w64 (i28 + 1)) else some (true)
def d_laws_eqIntS_L1 (fu : Nat)  (a1 : List Int) (b5 : List Int) : Nat → Int → Option (Bool)
  | 0 => fun _ => none
  | n + 1 => d_laws_eqIntS_L1_B fu a1 b5 (d_laws_eqIntS_L1 fu a1 b5 n)
theorem d_laws_eqIntS_L1_s (fu : Nat)  (a1 : List Int) (b5 : List Int) (n : Nat) : d_laws_eqIntS_L1 fu a1 b5 (n + 1) = d_laws_eqIntS_L1_B fu a1 b5 (d_laws_eqIntS_L1 fu a1 b5 n) := rfl

def d_laws_eqIntS (fu : Nat) (a1 : List Int) (b5 : List Int) : Option (Bool) :=
  bif (((a1.length : Int)) != ((b5.length : Int))) then some (false) else d_laws_eqIntS_L1 fu a1 b5 fu 0

def d_laws_eqIntSS_L1_B (fu : Nat)  (a1 : List (List Int)) (b5 : List (List Int)) (k1 : Int → Option (Bool)) (i64 : Int) : Option (Bool) :=
  bif (decide (i64 < ((a1.length : Int)))) then obind (ix a1 i64) fun x68 => obind (ix b5 i64) fun x77 => obind (d_laws_eqIntS fu x68 x77) fun x86 => bif (!x86) then some (false) else k1 (w64 (i64 + 1)) else some (true)
def d_laws_eqIntSS_L1 (fu : Nat)  (a1 : List (List Int)) (b5 : List (List Int)) : Nat → Int → Option (Bool)
  | 0 => fun _ => none
  | n + 1 => d_laws_eqIntSS_L1_B fu a1 b5 (d_laws_eqIntSS_L1 fu a1 b5 n)
theorem d_laws_eqIntSS_L1_s (fu : Nat)  (a1 : List (List Int)) (b5 : List (List Int)) (n : Nat) : d_laws_eqIntSS_L1 fu a1 b5 (n + 1) = d_laws_eqIntSS_L1_B fu a1 b5 (d_laws_eqIntSS_L1 fu a1 b5 n) := rfl

def d_laws_eqIntSS (fu : Nat) (a1 : List (List Int)) (b5 : List (List Int)) : Option (Bool) :=
  bif (((a1.length : Int)) != ((b5.length : Int))) then some (false) else d_laws_eqIntSS_L1 fu a1 b5 fu 0

def d_laws_eqPallet (fu : Nat) (a1 : Pallet) (b2 : Pallet) : Option (Bool) :=
  bif (a1.fW != b2.fW) then some (false) else bif (a1.fD != b2.fD) then some (false) else bif (a1.fH != b2.fH) then some (false) else bif (a1.fGram != b2.fGram) then some (false) else some (true)

def d_laws_eqPair (fu : Nat) (a1 : Pair) (b2 : Pair) : Option (Bool) :=
  bif (a1.fA != b2.fA) then some (false) else bif (a1.fB != b2.fB) then some (false) else some (true)

def d_laws_eqPairS_L1_B (fu : Nat)  (a1 : List Pair) (b5 : List Pair) (k1 : Int → Option (Bool)) (i36 : Int) : Option (Bool) :=
  bif (decide (i36 < ((a1.length : Int)))) then obind (ix a1 i36) fun x40 => obind (ix b5 i36) fun x42 => obind (d_laws_eqPair fu x40 x42) fun x44 => bif (!x44) then some (false) else k1 (w64 (i36 + 1)) else some (true)
def d_laws_eqPairS_L1 (fu : Nat)  (a1 : List Pair) (b5 : List Pair) : Nat → Int → Option (Bool)
  | 0 => fun _ => none
  | n + 1 => d_laws_eqPairS_L1_B fu a1 b5 (d_laws_eqPairS_L1 fu a1 b5 n)
theorem d_laws_eqPairS_L1_s (fu : Nat)  (a1 : List Pair) (b5 : List Pair) (n : Nat) : d_laws_eqPairS_L1 fu a1 b5 (n + 1) = d_laws_eqPairS_L1_B fu a1 b5 (d_laws_eqPairS_L1 fu a1 b5 n) := rfl

def d_laws_eqPairS (fu : Nat) (a1 : List Pair) (b5 : List Pair) : Option (Bool) :=
  bif (((a1.length : Int)) != ((b5.length : Int))) then some (false) else d_laws_eqPairS_L1 fu a1 b5 fu 0

def d_laws_eqType (fu : Nat) (a1 : Typ) (b2 : Typ) : Option (Bool) :=
  bif (a1.fId != b2.fId) then some (false) else bif (a1.fW != b2.fW) then some (false) else bif (a1.fH != b2.fH) then some (false) else bif (a1.fD != b2.fD) then some (false) else bif (a1.fTare != b2.fTare) then some (false) else bif (a1.fGram != b2.fGram) then some (false) else bif (a1.fCost != b2.fCost) then some (false) else some (true)

def d_laws_eqTypeS_L1_B (fu : Nat)  (a1 : List Typ) (b5 : List Typ) (k1 : Int → Option (Bool)) (i36 : Int) : Option (Bool) :=
  bif (decide (i36 < ((a1.length : Int)))) then obind (ix a1 i36) fun x40 => obind (ix b5 i36) fun x42 => obind (d_laws_eqType fu x40 x42) fun x44 => bif (!x44) then some (false) else k1 (w64 (i36 + 1)) else some (true)
def d_laws_eqTypeS_L1 (fu : Nat)  (a1 : List Typ) (b5 : List Typ) : Nat → Int → Option (Bool)
  | 0 => fun _ => none
  | n + 1 => d_laws_eqTypeS_L1_B fu a1 b5 (d_laws_eqTypeS_L1 fu a1 b5 n)
theorem d_laws_eqTypeS_L1_s (fu : Nat)  (a1 : List Typ) (b5 : List Typ) (n : Nat) : d_laws_eqTypeS_L1 fu a1 b5 (n + 1) = d_laws_eqTypeS_L1_B fu a1 b5 (d_laws_eqTypeS_L1 fu a1 b5 n) := rfl

def d_laws_eqTypeS (fu : Nat) (a1 : List Typ) (b5 : List Typ) : Option (Bool) :=
  bif (((a1.length : Int)) != ((b5.length : Int))) then some (false) else d_laws_eqTypeS_L1 fu a1 b5 fu 0

def d_laws_eqItem (fu : Nat) (a1 : Item) (b2 : Item) : Option (Bool) :=
  bif (a1.fId != b2.fId) then some (false) else bif (a1.fW != b2.fW) then some (false) else bif (a1.fH != b2.fH) then some (false) else bif (a1.fD != b2.fD) then some (false) else bif (a1.fGram != b2.fGram) then some (false) else bif (a1.fClass != b2.fClass) then some (false) else bif (a1.fCount != b2.fCount) then some (false) else some (true)

def d_laws_eqItemS_L1_B (fu : Nat)  (a1 : List Item) (b5 : List Item) (k1 : Int → Option (Bool)) (i36 : Int) : Option (Bool) :=
  bif (decide (i36 < ((a1.length : Int)))) then obind (ix a1 i36) fun x40 => obind (ix b5 i36) fun x42 => obind (d_laws_eqItem fu x40 x42) fun x44 => bif (!x44) then some (false) else k1 (w64 (i36 + 1)) else some (true)
def d_laws_eqItemS_L1 (fu : Nat)  (a1 : List Item) (b5 : List Item) : Nat → Int → Option (Bool)
  | 0 => fun _ => none
  | n + 1 => d_laws_eqItemS_L1_B fu a1 b5 (d_laws_eqItemS_L1 fu a1 b5 n)
theorem d_laws_eqItemS_L1_s (fu : Nat)  (a1 : List Item) (b5 : List Item) (n : Nat) : d_laws_eqItemS_L1 fu a1 b5 (n + 1) = d_laws_eqItemS_L1_B fu a1 b5 (d_laws_eqItemS_L1 fu a1 b5 n) := rfl

def d_laws_eqItemS (fu : Nat) (a1 : List Item) (b5 : List Item) : Option (Bool) :=
  bif (((a1.length : Int)) != ((b5.length : Int))) then some (false) else d_laws_eqItemS_L1 fu a1 b5 fu 0

def d_laws_eqRequest (fu : Nat) (a1 : Request) (b5 : Request) : Option (Bool) :=
  bif (a1.fWay != b5.fWay) then some (false) else obind (d_laws_eqPallet fu a1.fPallet b5.fPallet) fun x34 => bif (!x34) then some (false) else bif (a1.fClasses != b5.fClasses) then some (false) else obind (d_laws_eqPairS fu a1.fPairs b5.fPairs) fun x40 => bif (!x40) then some (false) else obind (d_laws_eqTypeS fu a1.fTypes b5.fTypes) fun x45 => bif (!x45) then some (false) else bif (a1.fMaster != b5.fMaster) then some (false) else obind (d_laws_eqItemS fu a1.fItems b5.fItems) fun x51 => bif (!x51) then some (false) else some (true)

def d_laws_markPairS_L1_B (fu : Nat)   (k1 : List Pair → Int → Int → Option (Int × (List Pair))) (x32 : List Pair) (kv35 : Int) (i36 : Int) : Option (Int × (List Pair)) :=
  bif (decide (i36 < ((x32.length : Int)))) then obind (ix x32 i36) fun x39 => obind (ix (setx x32 i36 ({ x39 with fA := kv35 })) i36) fun x43 => k1 (setx (setx x32 i36 ({ x39 with fA := kv35 })) i36 ({ x43 with fB := w64 (kv35 + 1) })) (w64 ((w64 (kv35 + 1)) + 1)) (w64 (i36 + 1)) else some (kv35, x32)
def d_laws_markPairS_L1 (fu : Nat)   : Nat → List Pair → Int → Int → Option (Int × (List Pair))
  | 0 => fun _ _ _ => none
  | n + 1 => d_laws_markPairS_L1_B fu  (d_laws_markPairS_L1 fu  n)
theorem d_laws_markPairS_L1_s (fu : Nat)   (n : Nat) : d_laws_markPairS_L1 fu  (n + 1) = d_laws_markPairS_L1_B fu  (d_laws_markPairS_L1 fu  n) := rfl

def d_laws_markPairS (fu : Nat) (a1 : List Pair) (kv5 : Int) : Option (Int × (List Pair)) :=
  d_laws_markPairS_L1 fu fu a1 kv5 0

def d_laws_markTypeS_L1_B (fu : Nat)   (k1 : List Typ → Int → Int → Option (Int × (List Typ))) (x72 : List Typ) (kv75 : Int) (i76 : Int) : Option (Int × (List Typ)) :=
  bif (decide (i76 < ((x72.length : Int)))) then obind (ix x72 i76) fun x79 => obind (ix (setx x72 i76 ({ x79 with fId := kv75 })) i76) fun x83 => obind (ix (setx (setx x72 i76 ({ x79 with fId := kv75 })) i76 ({ x83 with fW := w64 (kv75 + 1) })) i76) fun x87 => obind (ix (setx (setx (setx x72 i76 ({ x79 with fId := kv75 })) i76 ({ x83 with fW := w64 (kv75 + 1) })) i76 ({ x87 with fH := w64 ((w64 (kv75 + 1)) + 1) })) i76) fun x91 => obind (ix (setx (setx (setx (setx x72 i76 ({ x79 with fId := kv75 })) i76 ({ x83 with fW := w64 (kv75 + 1) })) i76 ({ x87 with fH := w64 ((w64 (kv75 + 1)) + 1) })) i76 ({ x91 with fD := w64 ((w64 ((w64 (kv75 + 1)) + 1)) + 1) })) i76) fun x95 => obind (ix (setx (setx (setx (setx (setx x72 i76 ({ x79 with fId := kv75 })) i76 ({ x83 with fW := w64 (kv75 + 1) })) i76 ({ x87 with fH := w64 ((w64 (kv75 + 1)) + 1) })) i76 ({ x91 with fD := w64 ((w64 ((w64 (kv75 + 1)) + 1)) + 1) })) i76 ({ x95 with fTare := w64 ((w64 ((w64 ((w64 (kv75 + 1)) + 1)) + 1)) + 1) })) i76) fun x99 => obind (ix (setx (setx (setx (setx (setx (setx x72 i76 ({ x79 with fId := kv75 })) i76 ({ x83 with fW := w64 (kv75 + 1) })) i76 ({ x87 with fH := w64 ((w64 (kv75 + 1)) + 1) })) i76 ({ x91 with fD := w64 ((w64 ((w64 (kv75 + 1)) + 1)) + 1) })) i76 ({ x95 with fTare := w64 ((w64 ((w64 ((w64 (kv75 + 1)) + 1)) + 1)) + 1) })) i76 ({ x99 with fGram := w64 ((w64 ((w64 ((w64 ((w64 (kv75 + 1)) + 1)) + 1)) + 1)) + 1) })) i76) fun x103 => k1 (setx (setx (setx (setx (setx (setx (setx x72 i76 ({ x79 with fId := kv75 })) i76 ({ x83 with fW := w64 (kv75 + 1) })) i76 ({ x87 with fH := w64 ((w64 (kv75 + 1)) + 1) })) i76 ({ x91 with fD := w64 ((w64 ((w64 (kv75 + 1)) + 1)) + 1) })) i76 ({ x95 with fTare := w64 ((w64 ((w64 ((w64 (kv75 + 1)) + 1)) + 1)) + 1) })) i76 ({ x99 with fGram := w64 ((w64 ((w64 ((w64 ((w64 (kv75 + 1)) + 1)) + 1)) + 1)) + 1) })) i76 ({ x103 with fCost := w64 ((w64 ((w64 ((w64 ((w64 ((w64 (kv75 + 1)) + 1)) + 1)) + 1)) + 1)) + 1) })) (w64 ((w64 ((w64 ((w64 ((w64 ((w64 ((w64 (kv75 + 1)) + 1)) + 1)) + 1)) + 1)) + 1)) + 1)) (w64 (i76 + 1)) else some (kv75, x72)
def d_laws_markTypeS_L1 (fu : Nat)   : Nat → List Typ → Int → Int → Option (Int × (List Typ))
  | 0 => fun _ _ _ => none
  | n + 1 => d_laws_markTypeS_L1_B fu  (d_laws_markTypeS_L1 fu  n)
theorem d_laws_markTypeS_L1_s (fu : Nat)   (n : Nat) : d_laws_markTypeS_L1 fu  (n + 1) = d_laws_markTypeS_L1_B fu  (d_laws_markTypeS_L1 fu  n) := rfl

def d_laws_markTypeS (fu : Nat) (a1 : List Typ) (kv5 : Int) : Option (Int × (List Typ)) :=
  d_laws_markTypeS_L1 fu fu a1 kv5 0

def d_laws_markItemS_L1_B (fu : Nat)   (k1 : List Item → Int → Int → Option (Int × (List Item))) (x72 : List Item) (kv75 : Int) (i76 : Int) : Option (Int × (List Item)) :=
  bif (decide (i76 < ((x72.length : Int)))) then obind (ix x72 i76) fun x79 => obind (ix (setx x72 i76 ({ x79 with fId := kv75 })) i76) fun x83 => obind (ix (setx (setx x72 i76 ({ x79 with fId := kv75 })) i76 ({ x83 with fW := w64 (kv75 + 1) })) i76) fun x87 => obind (ix (setx (setx (setx x72 i76 ({ x79 with fId := kv75 })) i76 ({ x83 with fW := w64 (kv75 + 1) })) i76 ({ x87 with fH := w64 ((w64 (kv75 + 1)) + 1) })) i76) fun x91 => obind (ix (setx (setx (setx (setx x72 i76 ({ x79 with fId := kv75 })) i76 ({ x83 with fW := w64 (kv75 + 1) })) i76 ({ x87 with fH := w64 ((w64 (kv75 + 1)) + 1) })) i76 ({ x91 with fD := w64 ((w64 ((w64 (kv75 + 1)) + 1)) + 1) })) i76) fun x95 => obind (ix (setx (setx (setx (setx (setx x72 i76 ({ x79 with fId := kv75 })) i76 ({ x83 with fW := w64 (kv75 + 1) })) i76 ({ x87 with fH := w64 ((w64 (kv75 + 1)) + 1) })) i76 ({ x91 with fD := w64 ((w64 ((w64 (kv75 + 1)) + 1)) + 1) })) i76 ({ x95 with fGram := w64 ((w64 ((w64 ((w64 (kv75 + 1)) + 1)) + 1)) + 1) })) i76) fun x99 => obind (ix (setx (setx (setx (setx (setx (setx x72 i76 ({ x79 with fId := kv75 })) i76 ({ x83 with fW := w64 (kv75 + 1) })) i76 ({ x87 with fH := w64 ((w64 (kv75 + 1)) + 1) })) i76 ({ x91 with fD := w64 ((w64 ((w64 (kv75 + 1)) + 1)) + 1) })) i76 ({ x95 with fGram := w64 ((w64 ((w64 ((w64 (kv75 + 1)) + 1)) + 1)) + 1) })) i76 ({ x99 with fClass := w64 ((w64 ((w64 ((w64 ((w64 (kv75 + 1)) + 1)) + 1)) + 1)) + 1) })) i76) fun x103 => k1 (setx (setx (setx (setx (setx (setx (setx x72 i76 ({ x79 with fId := kv75 })) i76 ({ x83 with fW := w64 (kv75 + 1) })) i76 ({ x87 with fH := w64 ((w64 (kv75 + 1)) + 1) })) i76 ({ x91 with fD := w64 ((w64 ((w64 (kv75 + 1)) + 1)) + 1) })) i76 ({ x95 with fGram := w64 ((w64 ((w64 ((w64 (kv75 + 1)) + 1)) + 1)) + 1) })) i76 ({ x99 with fClass := w64 ((w64 ((w64 ((w64 ((w64 (kv75 + 1)) + 1)) + 1)) + 1)) + 1) })) i76 ({ x103 with fCount := w64 ((w64 ((w64 ((w64 ((w64 ((w64 (kv75 + 1)) + 1)) + 1)) + 1)) + 1)) + 1) })) (w64 ((w64 ((w64 ((w64 ((w64 ((w64 ((w64 (kv75 + 1)) + 1)) + 1)) + 1)) + 1)) + 1)) + 1)) (w64 (i76 + 1)) else some (kv75, x72)
def d_laws_markItemS_L1 (fu : Nat)   : Nat → List Item → Int → Int → Option (Int × (List Item))
  | 0 => fun _ _ _ => none
  | n + 1 => d_laws_markItemS_L1_B fu  (d_laws_markItemS_L1 fu  n)
theorem d_laws_markItemS_L1_s (fu : Nat)   (n : Nat) : d_laws_markItemS_L1 fu  (n + 1) = d_laws_markItemS_L1_B fu  (d_laws_markItemS_L1 fu  n) := rfl

def d_laws_markItemS (fu : Nat) (a1 : List Item) (kv5 : Int) : Option (Int × (List Item)) :=
  d_laws_markItemS_L1 fu fu a1 kv5 0

def d_laws_markRequest (fu : Nat) (a1 : Request) (kv5 : Int) : Option (Int × Request) :=
  obind (d_laws_markPairS fu a1.fPairs kv5) fun x18 => obind (d_laws_markTypeS fu a1.fTypes x18.1) fun x25 => obind (d_laws_markItemS fu a1.fItems x25.1) fun x32 => some (x32.1, (⟨a1.fWay, a1.fPallet, a1.fClasses, x18.2, x25.2, a1.fMaster, x32.2⟩ : Request))

def d_laws_markIntS_L1_B (fu : Nat)   (k1 : List Int → Int → Int → Option (Int × (List Int))) (x24 : List Int) (kv27 : Int) (i28 : Int) : Option (Int × (List Int)) :=
  bif (decide (i28 < ((x24.length : Int)))) then obind (ix x24 i28) fun x31 => k1 (setx x24 i28 kv27) (w64 (kv27 + 1)) (w64 (i28 + 1)) else some (kv27, x24)
def d_laws_markIntS_L1 (fu : Nat)   : Nat → List Int → Int → Int → Option (Int × (List Int))
  | 0 => fun _ _ _ => none
  | n + 1 => d_laws_markIntS_L1_B fu  (d_laws_markIntS_L1 fu  n)
theorem d_laws_markIntS_L1_s (fu : Nat)   (n : Nat) : d_laws_markIntS_L1 fu  (n + 1) = d_laws_markIntS_L1_B fu  (d_laws_markIntS_L1 fu  n) := rfl

def d_laws_markIntS (fu : Nat) (a1 : List Int) (kv5 : Int) : Option (Int × (List Int)) :=
  d_laws_markIntS_L1 fu fu a1 kv5 0

def d_laws_markIntSS_L1_B (fu : Nat)   (k1 : List (List Int) → Int → Int → Option (Int × (List (List Int)))) (x61 : List (List Int)) (kv65 : Int) (i66 : Int) : Option (Int × (List (List Int))) :=
  bif (decide (i66 < ((x61.length : Int)))) then obind (ix x61 i66) fun x69 => obind (d_laws_markIntS fu x69 kv65) fun x82 => k1 (setx x61 i66 x82.2) x82.1 (w64 (i66 + 1)) else some (kv65, x61)
def d_laws_markIntSS_L1 (fu : Nat)   : Nat → List (List Int) → Int → Int → Option (Int × (List (List Int)))
  | 0 => fun _ _ _ => none
  | n + 1 => d_laws_markIntSS_L1_B fu  (d_laws_markIntSS_L1 fu  n)
theorem d_laws_markIntSS_L1_s (fu : Nat)   (n : Nat) : d_laws_markIntSS_L1 fu  (n + 1) = d_laws_markIntSS_L1_B fu  (d_laws_markIntSS_L1 fu  n) := rfl

def d_laws_markIntSS (fu : Nat) (a1 : List (List Int)) (kv5 : Int) : Option (Int × (List (List Int))) :=
  d_laws_markIntSS_L1 fu fu a1 kv5 0

def d_laws_heldIntS_L1_B (fu : Nat)  (a1 : List Int) (k1 : Int → Int → Option (Int)) (kv19 : Int) (i20 : Int) : Option (Int) :=
  bif (decide (i20 < ((a1.length : Int)))) then obind (ix a1 i20) fun x23 => bif (x23 != kv19) then some ((-1)) else k1 (w64 (kv19 + 1)) (w64 (i20 + 1)) else some (kv19)
def d_laws_heldIntS_L1 (fu : Nat)  (a1 : List Int) : Nat → Int → Int → Option (Int)
  | 0 => fun _ _ => none
  | n + 1 => d_laws_heldIntS_L1_B fu a1 (d_laws_heldIntS_L1 fu a1 n)
theorem d_laws_heldIntS_L1_s (fu : Nat)  (a1 : List Int) (n : Nat) : d_laws_heldIntS_L1 fu a1 (n + 1) = d_laws_heldIntS_L1_B fu a1 (d_laws_heldIntS_L1 fu a1 n) := rfl

def d_laws_heldIntS (fu : Nat) (a1 : List Int) (kv5 : Int) : Option (Int) :=
  d_laws_heldIntS_L1 fu a1 fu kv5 0

def d_laws_heldIntSS_L1_B (fu : Nat)  (a1 : List (List Int)) (k1 : Int → Int → Option (Int)) (kv41 : Int) (i42 : Int) : Option (Int) :=
  bif (decide (i42 < ((a1.length : Int)))) then obind (ix a1 i42) fun x45 => obind (d_laws_heldIntS fu x45 kv41) fun x54 => bif (decide (x54 < 0)) then some ((-1)) else k1 x54 (w64 (i42 + 1)) else some (kv41)
def d_laws_heldIntSS_L1 (fu : Nat)  (a1 : List (List Int)) : Nat → Int → Int → Option (Int)
  | 0 => fun _ _ => none
  | n + 1 => d_laws_heldIntSS_L1_B fu a1 (d_laws_heldIntSS_L1 fu a1 n)
theorem d_laws_heldIntSS_L1_s (fu : Nat)  (a1 : List (List Int)) (n : Nat) : d_laws_heldIntSS_L1 fu a1 (n + 1) = d_laws_heldIntSS_L1_B fu a1 (d_laws_heldIntSS_L1 fu a1 n) := rfl

def d_laws_heldIntSS (fu : Nat) (a1 : List (List Int)) (kv5 : Int) : Option (Int) :=
  d_laws_heldIntSS_L1 fu a1 fu kv5 0

theorem c_laws_eqIntS (fu : Nat) {w0 : World} (a1 : List Int) (b5 : List Int) {v2 : Value} {F3 : List Nat} (hp4 : rd w0 F3 [v2] a1) {v6 : Value} {F7 : List Nat} (hp8 : rd w0 F7 [v6] b5) {r : Bool}
    (h : d_laws_eqIntS fu a1 b5 = some r) :
    Calls Tryz.prog 43 #[v2, v6] w0 fun e w => e = .returned (.bool (r)) ∧ Ext [] w0 w := by
  refine enter (vs := [_, _]) Tryz.func43 rfl Tryz.ntmps43 rfl fun a hK => ?_
  have hM := St.start w0
  unfold d_laws_eqIntS at h
  refine wp_seq ?_
  refine wp_region_lit ?_
  refine s1 hK rfl rfl rfl rfl fun a hK => ?_
  refine wpList_nil (nm_then ?_)
  refine wp_seq ?_
  refine wp_seq ?_
  refine wp_region_lit ?_
  refine s1 hK rfl rfl rfl rfl fun a hK => ?_
  refine s_val hK rfl rfl rfl (r_len (α := Int) hp4 hK Tryz.underlying29 rfl rfl) fun a hK => ?_
  refine s1 hK rfl rfl rfl rfl fun a hK => ?_
  refine s_val hK rfl rfl rfl (r_len (α := Int) hp8 hK Tryz.underlying29 rfl rfl) fun a hK => ?_
  refine s1 hK rfl rfl rfl rfl fun a hK => ?_
  refine wpList_nil (nm_then ?_)
  refine c_cond (b := ((a1.length : Int)) != ((b5.length : Int))) hK rfl (fun hb9 => ?_) (fun hb9 => ?_)
  · have h := bif_t hb9 h
    refine wp_seq ?_
    refine wp_region_lit ?_
    refine s1 hK rfl rfl rfl rfl fun a hK => ?_
    refine wpList_nil (nm_then ?_)
    refine wp_ret (rt_then ?_)
    have h := Option.some.inj h
    subst h
    exact finR1 hK rfl (RV.tmp hK rfl) ⟨rfl, hM.ext⟩
  · have h := bif_f hb9 h
    refine wp_skip (nm_then ?_)
    refine wp_seq ?_
    refine wp_seq ?_
    refine wp_region_lit ?_
    refine s1 hK rfl rfl rfl rfl fun a hK => ?_
    refine wpList_nil (nm_then ?_)
    refine wp_block ?_
    refine c_loop (fun n a w => ∃ (i28 : Int), K 26 [(0, v2), (1, v6), (5, .int .i64 (i28))] a ∧ St [] w0 w [] ∧ d_laws_eqIntS_L1 fu a1 b5 n i28 = some r) ?_ ?_ fu _ _ ?_
    · rintro a w ⟨_, _, _, h⟩
      cases (show none = some _ from h)
    · rintro m29 a w27 ⟨i28, hK, hM, h⟩
      rw [d_laws_eqIntS_L1_s] at h
      unfold d_laws_eqIntS_L1_B at h
      refine wp_seq ?_
      refine wp_seq ?_
      refine wp_region_lit ?_
      iterate 2 (refine s1 hK rfl rfl rfl rfl fun a hK => ?_)
      refine s_val hK rfl rfl rfl (r_len (α := Int) hp4 hK Tryz.underlying29 rfl rfl) fun a hK => ?_
      refine s1 hK rfl rfl rfl rfl fun a hK => ?_
      refine wpList_nil (nm_then ?_)
      refine c_cond (b := decide (i28 < ((a1.length : Int)))) hK rfl (fun hb30 => ?_) (fun hb30 => ?_)
      · have h := bif_t hb30 h
        refine wp_skip (nm_then ?_)
        refine wp_seq ?_
        refine wp_block ?_
        refine wp_seq ?_
        refine d_go [] mixo hM rfl fun w31 hMd => ?_
        have hM := hMd
        have hS := Ext.refl ([] : List Nat) w31
        refine d_pure hK 0 rfl (by kernel_rfl) (by kernel_rfl) (by kernel_rfl) rfl rfl rfl hS (fun _ _ _ h => h) rfl fun a hK => ?_
        refine d_pure hK 1 rfl (by kernel_rfl) (by kernel_rfl) (by kernel_rfl) rfl rfl rfl hS (fun _ _ _ h => h) rfl fun a hK => ?_
        obtain ⟨x32, hx33, h⟩ := obind_some h
        refine d_take hK 2 rfl (by kernel_rfl) (by kernel_rfl) (by kernel_rfl) rfl rfl rfl hS (fun _ _ _ h => h) (fun w hS => r_ixa hp4 hx33 hK ts29 rfl rfl rfl) fun a hK => ?_
        refine d_take hK 3 rfl (by kernel_rfl) (by kernel_rfl) (by kernel_rfl) rfl rfl rfl hS (fun _ _ _ h => h) (fun w hS => r_lde1 hp4 ((hMd.step hS).a00 (Enc.rd_lt hp4)) hx33 0 t13 hK rfl rfl rfl rfl) fun a hK => ?_
        refine d_pure hK 4 rfl (by kernel_rfl) (by kernel_rfl) (by kernel_rfl) rfl rfl rfl hS (fun _ _ _ h => h) rfl fun a hK => ?_
        refine d_pure hK 5 rfl (by kernel_rfl) (by kernel_rfl) (by kernel_rfl) rfl rfl rfl hS (fun _ _ _ h => h) rfl fun a hK => ?_
        obtain ⟨x34, hx35, h⟩ := obind_some h
        refine d_take hK 6 rfl (by kernel_rfl) (by kernel_rfl) (by kernel_rfl) rfl rfl rfl hS (fun _ _ _ h => h) (fun w hS => r_ixa hp8 hx35 hK ts29 rfl rfl rfl) fun a hK => ?_
        refine d_take hK 7 rfl (by kernel_rfl) (by kernel_rfl) (by kernel_rfl) rfl rfl rfl hS (fun _ _ _ h => h) (fun w hS => r_lde1 hp8 ((hMd.step hS).a00 (Enc.rd_lt hp8)) hx35 0 t13 hK rfl rfl rfl rfl) fun a hK => ?_
        refine d_pure hK 8 rfl (by kernel_rfl) (by kernel_rfl) (by kernel_rfl) rfl rfl rfl hS (fun _ _ _ h => h) rfl fun a hK => ?_
        refine d_done (by kernel_rfl) ?_
        refine (nm_then ?_)
        refine c_cond (b := x32 != x34) hK rfl (fun hb36 => ?_) (fun hb36 => ?_)
        · have h := bif_t hb36 h
          refine wp_seq ?_
          refine wp_region_lit ?_
          refine s1 hK rfl rfl rfl rfl fun a hK => ?_
          refine wpList_nil (nm_then ?_)
          refine wp_ret (rt_block (rt_then (rt_then (rt_block (rt_then ?_)))))
          have h := Option.some.inj h
          subst h
          exact finR1 hK rfl (RV.tmp hK rfl) ⟨rfl, hM.ext⟩
        · have h := bif_f hb36 h
          refine wp_skip (nm_block (nm_then ?_))
          refine wp_region_lit ?_
          iterate 3 (refine s1 hK rfl rfl rfl rfl fun a hK => ?_)
          refine wpList_nil (nm_then ?_)
          exact ⟨w64 (i28 + 1), hK.keep [0, 1, 5] rfl, hM.sel [] rfl (by decide), h⟩
      · have h := bif_f hb30 h
        refine wp_exit (ex_then (ex_then (ex_same (nm_then ?_))))
        refine wp_seq ?_
        refine wp_region_lit ?_
        refine s1 hK rfl rfl rfl rfl fun a hK => ?_
        refine wpList_nil (nm_then ?_)
        refine wp_ret ?_
        have h := Option.some.inj h
        subst h
        exact finR1 hK rfl (RV.tmp hK rfl) ⟨rfl, hM.ext⟩
    · exact ⟨0, hK.keep [0, 1, 5] rfl, hM.sel [] rfl (by decide), h⟩

theorem c_laws_eqIntSS (fu : Nat) {w0 : World} (a1 : List (List Int)) (b5 : List (List Int)) {v2 : Value} {F3 : List Nat} (hp4 : rd w0 F3 [v2] a1) {v6 : Value} {F7 : List Nat} (hp8 : rd w0 F7 [v6] b5) {r : Bool}
    (h : d_laws_eqIntSS fu a1 b5 = some r) :
    Calls Tryz.prog 25 #[v2, v6] w0 fun e w => e = .returned (.bool (r)) ∧ Ext [] w0 w := by
  refine enter (vs := [_, _]) Tryz.func25 rfl Tryz.ntmps25 rfl fun a hK => ?_
  have hM := St.start w0
  unfold d_laws_eqIntSS at h
  refine wp_seq ?_
  refine wp_region_lit ?_
  refine s1 hK rfl rfl rfl rfl fun a hK => ?_
  refine wpList_nil (nm_then ?_)
  refine wp_seq ?_
  refine wp_seq ?_
  refine wp_region_lit ?_
  refine s1 hK rfl rfl rfl rfl fun a hK => ?_
  refine s_val hK rfl rfl rfl (r_len (α := List Int) hp4 hK Tryz.underlying47 rfl rfl) fun a hK => ?_
  refine s1 hK rfl rfl rfl rfl fun a hK => ?_
  refine s_val hK rfl rfl rfl (r_len (α := List Int) hp8 hK Tryz.underlying47 rfl rfl) fun a hK => ?_
  refine s1 hK rfl rfl rfl rfl fun a hK => ?_
  refine wpList_nil (nm_then ?_)
  refine c_cond (b := ((a1.length : Int)) != ((b5.length : Int))) hK rfl (fun hb9 => ?_) (fun hb9 => ?_)
  · have h := bif_t hb9 h
    refine wp_seq ?_
    refine wp_region_lit ?_
    refine s1 hK rfl rfl rfl rfl fun a hK => ?_
    refine wpList_nil (nm_then ?_)
    refine wp_ret (rt_then ?_)
    have h := Option.some.inj h
    subst h
    exact finR1 hK rfl (RV.tmp hK rfl) ⟨rfl, hM.ext⟩
  · have h := bif_f hb9 h
    refine wp_skip (nm_then ?_)
    refine wp_seq ?_
    refine wp_seq ?_
    refine wp_region_lit ?_
    refine s1 hK rfl rfl rfl rfl fun a hK => ?_
    refine wpList_nil (nm_then ?_)
    refine wp_block ?_
    refine c_loop (fun n a w => ∃ (i64 : Int), K 27 [(0, v2), (1, v6), (5, .int .i64 (i64))] a ∧ St [] w0 w [] ∧ d_laws_eqIntSS_L1 fu a1 b5 n i64 = some r) ?_ ?_ fu _ _ ?_
    · rintro a w ⟨_, _, _, h⟩
      cases (show none = some _ from h)
    · rintro m65 a w63 ⟨i64, hK, hM, h⟩
      rw [d_laws_eqIntSS_L1_s] at h
      unfold d_laws_eqIntSS_L1_B at h
      refine wp_seq ?_
      refine wp_seq ?_
      refine wp_region_lit ?_
      iterate 2 (refine s1 hK rfl rfl rfl rfl fun a hK => ?_)
      refine s_val hK rfl rfl rfl (r_len (α := List Int) hp4 hK Tryz.underlying47 rfl rfl) fun a hK => ?_
      refine s1 hK rfl rfl rfl rfl fun a hK => ?_
      refine wpList_nil (nm_then ?_)
      refine c_cond (b := decide (i64 < ((a1.length : Int)))) hK rfl (fun hb66 => ?_) (fun hb66 => ?_)
      · have h := bif_t hb66 h
        refine wp_skip (nm_then ?_)
        refine wp_seq ?_
        refine wp_block ?_
        refine wp_seq ?_
        refine d_go [] mixo hM rfl fun w67 hMd => ?_
        have hM := hMd
        have hS := Ext.refl ([] : List Nat) w67
        refine d_pure hK 0 rfl (by kernel_rfl) (by kernel_rfl) (by kernel_rfl) rfl rfl rfl hS (fun _ _ _ h => h) rfl fun a hK => ?_
        refine d_pure hK 1 rfl (by kernel_rfl) (by kernel_rfl) (by kernel_rfl) rfl rfl rfl hS (fun _ _ _ h => h) rfl fun a hK => ?_
        obtain ⟨x68, hx69, h⟩ := obind_some h
        refine d_take hK 2 rfl (by kernel_rfl) (by kernel_rfl) (by kernel_rfl) rfl rfl rfl hS (fun _ _ _ h => h) (fun w hS => r_ixa hp4 hx69 hK ts47 rfl rfl rfl) fun a hK => ?_
        obtain ⟨G70, cs71, hG72, hr73, hp74, hb75⟩ := rd_get hp4 (ix_some hx69).2.2
        obtain ⟨v76, rfl⟩ : ∃ v, cs71 = [v] := by obtain ⟨_, _, hq, _⟩ := hr73; exact ⟨_, hq⟩
        refine d_take hK 3 rfl (by kernel_rfl) (by kernel_rfl) (by kernel_rfl) rfl rfl rfl hS (fun _ _ _ h => h) (fun w hS => r_ld1 t129 (hp74.agr ((hMd.step hS).a00 (Enc.rd_lt hp4)) hb75) hK rfl rfl) fun a hK => ?_
        refine d_pure hK 4 rfl (by kernel_rfl) (by kernel_rfl) (by kernel_rfl) rfl rfl rfl hS (fun _ _ _ h => h) rfl fun a hK => ?_
        refine d_pure hK 5 rfl (by kernel_rfl) (by kernel_rfl) (by kernel_rfl) rfl rfl rfl hS (fun _ _ _ h => h) rfl fun a hK => ?_
        obtain ⟨x77, hx78, h⟩ := obind_some h
        refine d_take hK 6 rfl (by kernel_rfl) (by kernel_rfl) (by kernel_rfl) rfl rfl rfl hS (fun _ _ _ h => h) (fun w hS => r_ixa hp8 hx78 hK ts47 rfl rfl rfl) fun a hK => ?_
        obtain ⟨G79, cs80, hG81, hr82, hp83, hb84⟩ := rd_get hp8 (ix_some hx78).2.2
        obtain ⟨v85, rfl⟩ : ∃ v, cs80 = [v] := by obtain ⟨_, _, hq, _⟩ := hr82; exact ⟨_, hq⟩
        refine d_take hK 7 rfl (by kernel_rfl) (by kernel_rfl) (by kernel_rfl) rfl rfl rfl hS (fun _ _ _ h => h) (fun w hS => r_ld1 t129 (hp83.agr ((hMd.step hS).a00 (Enc.rd_lt hp8)) hb84) hK rfl rfl) fun a hK => ?_
        refine d_one 8 (by kernel_rfl) rfl ?_
        obtain ⟨x86, hx87, h⟩ := obind_some h
        refine s_call hK Tryz.call43 rfl rfl rfl rfl rfl (c_laws_eqIntS fu _ _ (Enc.rd_agr hr73 (hM.a00 (Enc.rd_lt hr73))) (Enc.rd_agr hr82 (hM.a00 (Enc.rd_lt hr82))) hx87) fun e88 w89 hR => ?_
        obtain ⟨rfl, hE⟩ := hR
        refine ⟨_, rfl, fun a hK => ?_⟩
        have hM := hM.step hE
        have hS := hS.trans hE (by simp)
        refine wpList_nil ⟨hS, ?_⟩
        refine d_pure hK 9 rfl (by kernel_rfl) (by kernel_rfl) (by kernel_rfl) rfl rfl rfl hS (fun _ _ _ h => h) rfl fun a hK => ?_
        refine d_done (by kernel_rfl) ?_
        refine (nm_then ?_)
        refine c_cond (b := !x86) hK rfl (fun hb90 => ?_) (fun hb90 => ?_)
        · have h := bif_t hb90 h
          refine wp_seq ?_
          refine wp_region_lit ?_
          refine s1 hK rfl rfl rfl rfl fun a hK => ?_
          refine wpList_nil (nm_then ?_)
          refine wp_ret (rt_block (rt_then (rt_then (rt_block (rt_then ?_)))))
          have h := Option.some.inj h
          subst h
          exact finR1 hK rfl (RV.tmp hK rfl) ⟨rfl, hM.ext⟩
        · have h := bif_f hb90 h
          refine wp_skip (nm_block (nm_then ?_))
          refine wp_region_lit ?_
          iterate 3 (refine s1 hK rfl rfl rfl rfl fun a hK => ?_)
          refine wpList_nil (nm_then ?_)
          exact ⟨w64 (i64 + 1), hK.keep [0, 1, 5] rfl, hM.sel [] rfl (by decide), h⟩
      · have h := bif_f hb66 h
        refine wp_exit (ex_then (ex_then (ex_same (nm_then ?_))))
        refine wp_seq ?_
        refine wp_region_lit ?_
        refine s1 hK rfl rfl rfl rfl fun a hK => ?_
        refine wpList_nil (nm_then ?_)
        refine wp_ret ?_
        have h := Option.some.inj h
        subst h
        exact finR1 hK rfl (RV.tmp hK rfl) ⟨rfl, hM.ext⟩
    · exact ⟨0, hK.keep [0, 1, 5] rfl, hM.sel [] rfl (by decide), h⟩

theorem c_laws_eqPallet (fu : Nat) {w0 : World} (a1 : Pallet) (b2 : Pallet)  {r : Bool}
    (h : d_laws_eqPallet fu a1 b2 = some r) :
    Calls Tryz.prog 79 #[.agg (Flat.e (a1)).toArray, .agg (Flat.e (b2)).toArray] w0 fun e w => e = .returned (.bool (r)) ∧ Ext [] w0 w := by
  refine enter (vs := [_, _]) Tryz.func79 rfl Tryz.ntmps79 rfl fun a hK => ?_
  have hM := St.start w0
  unfold d_laws_eqPallet at h
  refine wp_seq ?_
  refine wp_region_lit ?_
  refine s_box (cs := [.int .i64 (a1.fW), .int .i64 (a1.fD), .int .i64 (a1.fH), .int .i64 (a1.fGram)]) hM hK rfl rfl rfl rfl rfl rfl fun b3 w5 a hK hM hE hb4 => ?_
  refine s_box (cs := [.int .i64 (b2.fW), .int .i64 (b2.fD), .int .i64 (b2.fH), .int .i64 (b2.fGram)]) hM hK rfl rfl rfl rfl rfl rfl fun b6 w8 a hK hM hE hb7 => ?_
  refine s1 hK rfl rfl rfl rfl fun a hK => ?_
  refine wpList_nil (nm_then ?_)
  refine wp_seq ?_
  refine wp_seq ?_
  refine wp_region_lit ?_
  refine s_val hK rfl rfl rfl (r_fa fa35_0 hK rfl rfl) fun a hK => ?_
  refine s_val hK rfl rfl rfl (r_ldb t13 hM 1 hb4 0 hK rfl rfl rfl rfl rfl) fun a hK => ?_
  refine s_val hK rfl rfl rfl (r_fa fa35_0 hK rfl rfl) fun a hK => ?_
  refine s_val hK rfl rfl rfl (r_ldb t13 hM 0 hb7 0 hK rfl rfl rfl rfl rfl) fun a hK => ?_
  refine s1 hK rfl rfl rfl rfl fun a hK => ?_
  refine wpList_nil (nm_then ?_)
  refine c_cond (b := a1.fW != b2.fW) hK rfl (fun hb9 => ?_) (fun hb9 => ?_)
  · have h := bif_t hb9 h
    refine wp_seq ?_
    refine wp_region_lit ?_
    refine s1 hK rfl rfl rfl rfl fun a hK => ?_
    refine wpList_nil (nm_then ?_)
    refine wp_ret (rt_then ?_)
    have h := Option.some.inj h
    subst h
    exact finR1 hK rfl (RV.tmp hK rfl) ⟨rfl, hM.ext⟩
  · have h := bif_f hb9 h
    refine wp_skip (nm_then ?_)
    refine wp_seq ?_
    refine wp_seq ?_
    refine wp_region_lit ?_
    refine s_val hK rfl rfl rfl (r_fa fa35_1 hK rfl rfl) fun a hK => ?_
    refine s_val hK rfl rfl rfl (r_ldb t13 hM 1 hb4 1 hK rfl rfl rfl rfl rfl) fun a hK => ?_
    refine s_val hK rfl rfl rfl (r_fa fa35_1 hK rfl rfl) fun a hK => ?_
    refine s_val hK rfl rfl rfl (r_ldb t13 hM 0 hb7 1 hK rfl rfl rfl rfl rfl) fun a hK => ?_
    refine s1 hK rfl rfl rfl rfl fun a hK => ?_
    refine wpList_nil (nm_then ?_)
    refine c_cond (b := a1.fD != b2.fD) hK rfl (fun hb10 => ?_) (fun hb10 => ?_)
    · have h := bif_t hb10 h
      refine wp_seq ?_
      refine wp_region_lit ?_
      refine s1 hK rfl rfl rfl rfl fun a hK => ?_
      refine wpList_nil (nm_then ?_)
      refine wp_ret (rt_then ?_)
      have h := Option.some.inj h
      subst h
      exact finR1 hK rfl (RV.tmp hK rfl) ⟨rfl, hM.ext⟩
    · have h := bif_f hb10 h
      refine wp_skip (nm_then ?_)
      refine wp_seq ?_
      refine wp_seq ?_
      refine wp_region_lit ?_
      refine s_val hK rfl rfl rfl (r_fa fa35_2 hK rfl rfl) fun a hK => ?_
      refine s_val hK rfl rfl rfl (r_ldb t13 hM 1 hb4 2 hK rfl rfl rfl rfl rfl) fun a hK => ?_
      refine s_val hK rfl rfl rfl (r_fa fa35_2 hK rfl rfl) fun a hK => ?_
      refine s_val hK rfl rfl rfl (r_ldb t13 hM 0 hb7 2 hK rfl rfl rfl rfl rfl) fun a hK => ?_
      refine s1 hK rfl rfl rfl rfl fun a hK => ?_
      refine wpList_nil (nm_then ?_)
      refine c_cond (b := a1.fH != b2.fH) hK rfl (fun hb11 => ?_) (fun hb11 => ?_)
      · have h := bif_t hb11 h
        refine wp_seq ?_
        refine wp_region_lit ?_
        refine s1 hK rfl rfl rfl rfl fun a hK => ?_
        refine wpList_nil (nm_then ?_)
        refine wp_ret (rt_then ?_)
        have h := Option.some.inj h
        subst h
        exact finR1 hK rfl (RV.tmp hK rfl) ⟨rfl, hM.ext⟩
      · have h := bif_f hb11 h
        refine wp_skip (nm_then ?_)
        refine wp_seq ?_
        refine wp_seq ?_
        refine wp_region_lit ?_
        refine s_val hK rfl rfl rfl (r_fa fa35_3 hK rfl rfl) fun a hK => ?_
        refine s_val hK rfl rfl rfl (r_ldb t13 hM 1 hb4 3 hK rfl rfl rfl rfl rfl) fun a hK => ?_
        refine s_val hK rfl rfl rfl (r_fa fa35_3 hK rfl rfl) fun a hK => ?_
        refine s_val hK rfl rfl rfl (r_ldb t13 hM 0 hb7 3 hK rfl rfl rfl rfl rfl) fun a hK => ?_
        refine s1 hK rfl rfl rfl rfl fun a hK => ?_
        refine wpList_nil (nm_then ?_)
        refine c_cond (b := a1.fGram != b2.fGram) hK rfl (fun hb12 => ?_) (fun hb12 => ?_)
        · have h := bif_t hb12 h
          refine wp_seq ?_
          refine wp_region_lit ?_
          refine s1 hK rfl rfl rfl rfl fun a hK => ?_
          refine wpList_nil (nm_then ?_)
          refine wp_ret (rt_then ?_)
          have h := Option.some.inj h
          subst h
          exact finR1 hK rfl (RV.tmp hK rfl) ⟨rfl, hM.ext⟩
        · have h := bif_f hb12 h
          refine wp_skip (nm_then ?_)
          refine wp_seq ?_
          refine wp_region_lit ?_
          refine s1 hK rfl rfl rfl rfl fun a hK => ?_
          refine wpList_nil (nm_then ?_)
          refine wp_ret ?_
          have h := Option.some.inj h
          subst h
          exact finR1 hK rfl (RV.tmp hK rfl) ⟨rfl, hM.ext⟩

theorem c_laws_eqPair (fu : Nat) {w0 : World} (a1 : Pair) (b2 : Pair)  {r : Bool}
    (h : d_laws_eqPair fu a1 b2 = some r) :
    Calls Tryz.prog 144 #[.agg (Flat.e (a1)).toArray, .agg (Flat.e (b2)).toArray] w0 fun e w => e = .returned (.bool (r)) ∧ Ext [] w0 w := by
  refine enter (vs := [_, _]) Tryz.func144 rfl Tryz.ntmps144 rfl fun a hK => ?_
  have hM := St.start w0
  unfold d_laws_eqPair at h
  refine wp_seq ?_
  refine wp_region_lit ?_
  refine s_box (cs := [.int .i64 (a1.fA), .int .i64 (a1.fB)]) hM hK rfl rfl rfl rfl rfl rfl fun b3 w5 a hK hM hE hb4 => ?_
  refine s_box (cs := [.int .i64 (b2.fA), .int .i64 (b2.fB)]) hM hK rfl rfl rfl rfl rfl rfl fun b6 w8 a hK hM hE hb7 => ?_
  refine s1 hK rfl rfl rfl rfl fun a hK => ?_
  refine wpList_nil (nm_then ?_)
  refine wp_seq ?_
  refine wp_seq ?_
  refine wp_region_lit ?_
  refine s_val hK rfl rfl rfl (r_fa fa144_0 hK rfl rfl) fun a hK => ?_
  refine s_val hK rfl rfl rfl (r_ldb t13 hM 1 hb4 0 hK rfl rfl rfl rfl rfl) fun a hK => ?_
  refine s_val hK rfl rfl rfl (r_fa fa144_0 hK rfl rfl) fun a hK => ?_
  refine s_val hK rfl rfl rfl (r_ldb t13 hM 0 hb7 0 hK rfl rfl rfl rfl rfl) fun a hK => ?_
  refine s1 hK rfl rfl rfl rfl fun a hK => ?_
  refine wpList_nil (nm_then ?_)
  refine c_cond (b := a1.fA != b2.fA) hK rfl (fun hb9 => ?_) (fun hb9 => ?_)
  · have h := bif_t hb9 h
    refine wp_seq ?_
    refine wp_region_lit ?_
    refine s1 hK rfl rfl rfl rfl fun a hK => ?_
    refine wpList_nil (nm_then ?_)
    refine wp_ret (rt_then ?_)
    have h := Option.some.inj h
    subst h
    exact finR1 hK rfl (RV.tmp hK rfl) ⟨rfl, hM.ext⟩
  · have h := bif_f hb9 h
    refine wp_skip (nm_then ?_)
    refine wp_seq ?_
    refine wp_seq ?_
    refine wp_region_lit ?_
    refine s_val hK rfl rfl rfl (r_fa fa144_1 hK rfl rfl) fun a hK => ?_
    refine s_val hK rfl rfl rfl (r_ldb t13 hM 1 hb4 1 hK rfl rfl rfl rfl rfl) fun a hK => ?_
    refine s_val hK rfl rfl rfl (r_fa fa144_1 hK rfl rfl) fun a hK => ?_
    refine s_val hK rfl rfl rfl (r_ldb t13 hM 0 hb7 1 hK rfl rfl rfl rfl rfl) fun a hK => ?_
    refine s1 hK rfl rfl rfl rfl fun a hK => ?_
    refine wpList_nil (nm_then ?_)
    refine c_cond (b := a1.fB != b2.fB) hK rfl (fun hb10 => ?_) (fun hb10 => ?_)
    · have h := bif_t hb10 h
      refine wp_seq ?_
      refine wp_region_lit ?_
      refine s1 hK rfl rfl rfl rfl fun a hK => ?_
      refine wpList_nil (nm_then ?_)
      refine wp_ret (rt_then ?_)
      have h := Option.some.inj h
      subst h
      exact finR1 hK rfl (RV.tmp hK rfl) ⟨rfl, hM.ext⟩
    · have h := bif_f hb10 h
      refine wp_skip (nm_then ?_)
      refine wp_seq ?_
      refine wp_region_lit ?_
      refine s1 hK rfl rfl rfl rfl fun a hK => ?_
      refine wpList_nil (nm_then ?_)
      refine wp_ret ?_
      have h := Option.some.inj h
      subst h
      exact finR1 hK rfl (RV.tmp hK rfl) ⟨rfl, hM.ext⟩

theorem c_laws_eqPairS (fu : Nat) {w0 : World} (a1 : List Pair) (b5 : List Pair) {v2 : Value} {F3 : List Nat} (hp4 : rd w0 F3 [v2] a1) {v6 : Value} {F7 : List Nat} (hp8 : rd w0 F7 [v6] b5) {r : Bool}
    (h : d_laws_eqPairS fu a1 b5 = some r) :
    Calls Tryz.prog 80 #[v2, v6] w0 fun e w => e = .returned (.bool (r)) ∧ Ext [] w0 w := by
  refine enter (vs := [_, _]) Tryz.func80 rfl Tryz.ntmps80 rfl fun a hK => ?_
  have hM := St.start w0
  unfold d_laws_eqPairS at h
  refine wp_seq ?_
  refine wp_region_lit ?_
  refine s1 hK rfl rfl rfl rfl fun a hK => ?_
  refine wpList_nil (nm_then ?_)
  refine wp_seq ?_
  refine wp_seq ?_
  refine wp_region_lit ?_
  refine s1 hK rfl rfl rfl rfl fun a hK => ?_
  refine s_val hK rfl rfl rfl (r_len (α := Pair) hp4 hK Tryz.underlying36 rfl rfl) fun a hK => ?_
  refine s1 hK rfl rfl rfl rfl fun a hK => ?_
  refine s_val hK rfl rfl rfl (r_len (α := Pair) hp8 hK Tryz.underlying36 rfl rfl) fun a hK => ?_
  refine s1 hK rfl rfl rfl rfl fun a hK => ?_
  refine wpList_nil (nm_then ?_)
  refine c_cond (b := ((a1.length : Int)) != ((b5.length : Int))) hK rfl (fun hb9 => ?_) (fun hb9 => ?_)
  · have h := bif_t hb9 h
    refine wp_seq ?_
    refine wp_region_lit ?_
    refine s1 hK rfl rfl rfl rfl fun a hK => ?_
    refine wpList_nil (nm_then ?_)
    refine wp_ret (rt_then ?_)
    have h := Option.some.inj h
    subst h
    exact finR1 hK rfl (RV.tmp hK rfl) ⟨rfl, hM.ext⟩
  · have h := bif_f hb9 h
    refine wp_skip (nm_then ?_)
    refine wp_seq ?_
    refine wp_seq ?_
    refine wp_region_lit ?_
    refine s1 hK rfl rfl rfl rfl fun a hK => ?_
    refine wpList_nil (nm_then ?_)
    refine wp_block ?_
    refine c_loop (fun n a w => ∃ (i36 : Int), K 27 [(0, v2), (1, v6), (5, .int .i64 (i36))] a ∧ St [] w0 w [] ∧ d_laws_eqPairS_L1 fu a1 b5 n i36 = some r) ?_ ?_ fu _ _ ?_
    · rintro a w ⟨_, _, _, h⟩
      cases (show none = some _ from h)
    · rintro m37 a w35 ⟨i36, hK, hM, h⟩
      rw [d_laws_eqPairS_L1_s] at h
      unfold d_laws_eqPairS_L1_B at h
      refine wp_seq ?_
      refine wp_seq ?_
      refine wp_region_lit ?_
      iterate 2 (refine s1 hK rfl rfl rfl rfl fun a hK => ?_)
      refine s_val hK rfl rfl rfl (r_len (α := Pair) hp4 hK Tryz.underlying36 rfl rfl) fun a hK => ?_
      refine s1 hK rfl rfl rfl rfl fun a hK => ?_
      refine wpList_nil (nm_then ?_)
      refine c_cond (b := decide (i36 < ((a1.length : Int)))) hK rfl (fun hb38 => ?_) (fun hb38 => ?_)
      · have h := bif_t hb38 h
        refine wp_skip (nm_then ?_)
        refine wp_seq ?_
        refine wp_block ?_
        refine wp_seq ?_
        refine d_go [] mixo hM rfl fun w39 hMd => ?_
        have hM := hMd
        have hS := Ext.refl ([] : List Nat) w39
        refine d_pure hK 0 rfl (by kernel_rfl) (by kernel_rfl) (by kernel_rfl) rfl rfl rfl hS (fun _ _ _ h => h) rfl fun a hK => ?_
        refine d_pure hK 1 rfl (by kernel_rfl) (by kernel_rfl) (by kernel_rfl) rfl rfl rfl hS (fun _ _ _ h => h) rfl fun a hK => ?_
        obtain ⟨x40, hx41, h⟩ := obind_some h
        refine d_take hK 2 rfl (by kernel_rfl) (by kernel_rfl) (by kernel_rfl) rfl rfl rfl hS (fun _ _ _ h => h) (fun w hS => r_ixa hp4 hx41 hK ts36 rfl rfl rfl) fun a hK => ?_
        refine d_take hK 3 rfl (by kernel_rfl) (by kernel_rfl) (by kernel_rfl) rfl rfl rfl hS (fun _ _ _ h => h) (fun w hS => r_lde hp4 ((hMd.step hS).a00 (Enc.rd_lt hp4)) hx41 ta144 hK rfl rfl) fun a hK => ?_
        refine d_pure hK 4 rfl (by kernel_rfl) (by kernel_rfl) (by kernel_rfl) rfl rfl rfl hS (fun _ _ _ h => h) rfl fun a hK => ?_
        refine d_pure hK 5 rfl (by kernel_rfl) (by kernel_rfl) (by kernel_rfl) rfl rfl rfl hS (fun _ _ _ h => h) rfl fun a hK => ?_
        obtain ⟨x42, hx43, h⟩ := obind_some h
        refine d_take hK 6 rfl (by kernel_rfl) (by kernel_rfl) (by kernel_rfl) rfl rfl rfl hS (fun _ _ _ h => h) (fun w hS => r_ixa hp8 hx43 hK ts36 rfl rfl rfl) fun a hK => ?_
        refine d_take hK 7 rfl (by kernel_rfl) (by kernel_rfl) (by kernel_rfl) rfl rfl rfl hS (fun _ _ _ h => h) (fun w hS => r_lde hp8 ((hMd.step hS).a00 (Enc.rd_lt hp8)) hx43 ta144 hK rfl rfl) fun a hK => ?_
        refine d_one 8 (by kernel_rfl) rfl ?_
        obtain ⟨x44, hx45, h⟩ := obind_some h
        refine s_call hK Tryz.call144 rfl rfl rfl rfl rfl (c_laws_eqPair fu (x40 : Pair) (x42 : Pair)  hx45) fun e46 w47 hR => ?_
        obtain ⟨rfl, hE⟩ := hR
        refine ⟨_, rfl, fun a hK => ?_⟩
        have hM := hM.step hE
        have hS := hS.trans hE (by simp)
        refine wpList_nil ⟨hS, ?_⟩
        refine d_pure hK 9 rfl (by kernel_rfl) (by kernel_rfl) (by kernel_rfl) rfl rfl rfl hS (fun _ _ _ h => h) rfl fun a hK => ?_
        refine d_done (by kernel_rfl) ?_
        refine (nm_then ?_)
        refine c_cond (b := !x44) hK rfl (fun hb48 => ?_) (fun hb48 => ?_)
        · have h := bif_t hb48 h
          refine wp_seq ?_
          refine wp_region_lit ?_
          refine s1 hK rfl rfl rfl rfl fun a hK => ?_
          refine wpList_nil (nm_then ?_)
          refine wp_ret (rt_block (rt_then (rt_then (rt_block (rt_then ?_)))))
          have h := Option.some.inj h
          subst h
          exact finR1 hK rfl (RV.tmp hK rfl) ⟨rfl, hM.ext⟩
        · have h := bif_f hb48 h
          refine wp_skip (nm_block (nm_then ?_))
          refine wp_region_lit ?_
          iterate 3 (refine s1 hK rfl rfl rfl rfl fun a hK => ?_)
          refine wpList_nil (nm_then ?_)
          exact ⟨w64 (i36 + 1), hK.keep [0, 1, 5] rfl, hM.sel [] rfl (by decide), h⟩
      · have h := bif_f hb38 h
        refine wp_exit (ex_then (ex_then (ex_same (nm_then ?_))))
        refine wp_seq ?_
        refine wp_region_lit ?_
        refine s1 hK rfl rfl rfl rfl fun a hK => ?_
        refine wpList_nil (nm_then ?_)
        refine wp_ret ?_
        have h := Option.some.inj h
        subst h
        exact finR1 hK rfl (RV.tmp hK rfl) ⟨rfl, hM.ext⟩
    · exact ⟨0, hK.keep [0, 1, 5] rfl, hM.sel [] rfl (by decide), h⟩

theorem c_laws_eqType (fu : Nat) {w0 : World} (a1 : Typ) (b2 : Typ)  {r : Bool}
    (h : d_laws_eqType fu a1 b2 = some r) :
    Calls Tryz.prog 145 #[.agg (Flat.e (a1)).toArray, .agg (Flat.e (b2)).toArray] w0 fun e w => e = .returned (.bool (r)) ∧ Ext [] w0 w := by
  refine enter (vs := [_, _]) Tryz.func145 rfl Tryz.ntmps145 rfl fun a hK => ?_
  have hM := St.start w0
  unfold d_laws_eqType at h
  refine wp_seq ?_
  refine wp_region_lit ?_
  refine s_box (cs := [.int .i64 (a1.fId), .int .i64 (a1.fW), .int .i64 (a1.fH), .int .i64 (a1.fD), .int .i64 (a1.fTare), .int .i64 (a1.fGram), .int .i64 (a1.fCost)]) hM hK rfl rfl rfl rfl rfl rfl fun b3 w5 a hK hM hE hb4 => ?_
  refine s_box (cs := [.int .i64 (b2.fId), .int .i64 (b2.fW), .int .i64 (b2.fH), .int .i64 (b2.fD), .int .i64 (b2.fTare), .int .i64 (b2.fGram), .int .i64 (b2.fCost)]) hM hK rfl rfl rfl rfl rfl rfl fun b6 w8 a hK hM hE hb7 => ?_
  refine s1 hK rfl rfl rfl rfl fun a hK => ?_
  refine wpList_nil (nm_then ?_)
  refine wp_seq ?_
  refine wp_seq ?_
  refine wp_region_lit ?_
  refine s_val hK rfl rfl rfl (r_fa fa92_0 hK rfl rfl) fun a hK => ?_
  refine s_val hK rfl rfl rfl (r_ldb t13 hM 1 hb4 0 hK rfl rfl rfl rfl rfl) fun a hK => ?_
  refine s_val hK rfl rfl rfl (r_fa fa92_0 hK rfl rfl) fun a hK => ?_
  refine s_val hK rfl rfl rfl (r_ldb t13 hM 0 hb7 0 hK rfl rfl rfl rfl rfl) fun a hK => ?_
  refine s1 hK rfl rfl rfl rfl fun a hK => ?_
  refine wpList_nil (nm_then ?_)
  refine c_cond (b := a1.fId != b2.fId) hK rfl (fun hb9 => ?_) (fun hb9 => ?_)
  · have h := bif_t hb9 h
    refine wp_seq ?_
    refine wp_region_lit ?_
    refine s1 hK rfl rfl rfl rfl fun a hK => ?_
    refine wpList_nil (nm_then ?_)
    refine wp_ret (rt_then ?_)
    have h := Option.some.inj h
    subst h
    exact finR1 hK rfl (RV.tmp hK rfl) ⟨rfl, hM.ext⟩
  · have h := bif_f hb9 h
    refine wp_skip (nm_then ?_)
    refine wp_seq ?_
    refine wp_seq ?_
    refine wp_region_lit ?_
    refine s_val hK rfl rfl rfl (r_fa fa92_1 hK rfl rfl) fun a hK => ?_
    refine s_val hK rfl rfl rfl (r_ldb t13 hM 1 hb4 1 hK rfl rfl rfl rfl rfl) fun a hK => ?_
    refine s_val hK rfl rfl rfl (r_fa fa92_1 hK rfl rfl) fun a hK => ?_
    refine s_val hK rfl rfl rfl (r_ldb t13 hM 0 hb7 1 hK rfl rfl rfl rfl rfl) fun a hK => ?_
    refine s1 hK rfl rfl rfl rfl fun a hK => ?_
    refine wpList_nil (nm_then ?_)
    refine c_cond (b := a1.fW != b2.fW) hK rfl (fun hb10 => ?_) (fun hb10 => ?_)
    · have h := bif_t hb10 h
      refine wp_seq ?_
      refine wp_region_lit ?_
      refine s1 hK rfl rfl rfl rfl fun a hK => ?_
      refine wpList_nil (nm_then ?_)
      refine wp_ret (rt_then ?_)
      have h := Option.some.inj h
      subst h
      exact finR1 hK rfl (RV.tmp hK rfl) ⟨rfl, hM.ext⟩
    · have h := bif_f hb10 h
      refine wp_skip (nm_then ?_)
      refine wp_seq ?_
      refine wp_seq ?_
      refine wp_region_lit ?_
      refine s_val hK rfl rfl rfl (r_fa fa92_2 hK rfl rfl) fun a hK => ?_
      refine s_val hK rfl rfl rfl (r_ldb t13 hM 1 hb4 2 hK rfl rfl rfl rfl rfl) fun a hK => ?_
      refine s_val hK rfl rfl rfl (r_fa fa92_2 hK rfl rfl) fun a hK => ?_
      refine s_val hK rfl rfl rfl (r_ldb t13 hM 0 hb7 2 hK rfl rfl rfl rfl rfl) fun a hK => ?_
      refine s1 hK rfl rfl rfl rfl fun a hK => ?_
      refine wpList_nil (nm_then ?_)
      refine c_cond (b := a1.fH != b2.fH) hK rfl (fun hb11 => ?_) (fun hb11 => ?_)
      · have h := bif_t hb11 h
        refine wp_seq ?_
        refine wp_region_lit ?_
        refine s1 hK rfl rfl rfl rfl fun a hK => ?_
        refine wpList_nil (nm_then ?_)
        refine wp_ret (rt_then ?_)
        have h := Option.some.inj h
        subst h
        exact finR1 hK rfl (RV.tmp hK rfl) ⟨rfl, hM.ext⟩
      · have h := bif_f hb11 h
        refine wp_skip (nm_then ?_)
        refine wp_seq ?_
        refine wp_seq ?_
        refine wp_region_lit ?_
        refine s_val hK rfl rfl rfl (r_fa fa92_3 hK rfl rfl) fun a hK => ?_
        refine s_val hK rfl rfl rfl (r_ldb t13 hM 1 hb4 3 hK rfl rfl rfl rfl rfl) fun a hK => ?_
        refine s_val hK rfl rfl rfl (r_fa fa92_3 hK rfl rfl) fun a hK => ?_
        refine s_val hK rfl rfl rfl (r_ldb t13 hM 0 hb7 3 hK rfl rfl rfl rfl rfl) fun a hK => ?_
        refine s1 hK rfl rfl rfl rfl fun a hK => ?_
        refine wpList_nil (nm_then ?_)
        refine c_cond (b := a1.fD != b2.fD) hK rfl (fun hb12 => ?_) (fun hb12 => ?_)
        · have h := bif_t hb12 h
          refine wp_seq ?_
          refine wp_region_lit ?_
          refine s1 hK rfl rfl rfl rfl fun a hK => ?_
          refine wpList_nil (nm_then ?_)
          refine wp_ret (rt_then ?_)
          have h := Option.some.inj h
          subst h
          exact finR1 hK rfl (RV.tmp hK rfl) ⟨rfl, hM.ext⟩
        · have h := bif_f hb12 h
          refine wp_skip (nm_then ?_)
          refine wp_seq ?_
          refine wp_seq ?_
          refine wp_region_lit ?_
          refine s_val hK rfl rfl rfl (r_fa fa92_4 hK rfl rfl) fun a hK => ?_
          refine s_val hK rfl rfl rfl (r_ldb t13 hM 1 hb4 4 hK rfl rfl rfl rfl rfl) fun a hK => ?_
          refine s_val hK rfl rfl rfl (r_fa fa92_4 hK rfl rfl) fun a hK => ?_
          refine s_val hK rfl rfl rfl (r_ldb t13 hM 0 hb7 4 hK rfl rfl rfl rfl rfl) fun a hK => ?_
          refine s1 hK rfl rfl rfl rfl fun a hK => ?_
          have hK := hK.keep [2, 3, 29] rfl
          refine wpList_nil (nm_then ?_)
          refine c_cond (b := a1.fTare != b2.fTare) hK rfl (fun hb13 => ?_) (fun hb13 => ?_)
          · have h := bif_t hb13 h
            refine wp_seq ?_
            refine wp_region_lit ?_
            refine s1 hK rfl rfl rfl rfl fun a hK => ?_
            refine wpList_nil (nm_then ?_)
            refine wp_ret (rt_then ?_)
            have h := Option.some.inj h
            subst h
            exact finR1 hK rfl (RV.tmp hK rfl) ⟨rfl, hM.ext⟩
          · have h := bif_f hb13 h
            refine wp_skip (nm_then ?_)
            refine wp_seq ?_
            refine wp_seq ?_
            refine wp_region_lit ?_
            refine s_val hK rfl rfl rfl (r_fa fa92_5 hK rfl rfl) fun a hK => ?_
            refine s_val hK rfl rfl rfl (r_ldb t13 hM 1 hb4 5 hK rfl rfl rfl rfl rfl) fun a hK => ?_
            refine s_val hK rfl rfl rfl (r_fa fa92_5 hK rfl rfl) fun a hK => ?_
            refine s_val hK rfl rfl rfl (r_ldb t13 hM 0 hb7 5 hK rfl rfl rfl rfl rfl) fun a hK => ?_
            refine s1 hK rfl rfl rfl rfl fun a hK => ?_
            refine wpList_nil (nm_then ?_)
            refine c_cond (b := a1.fGram != b2.fGram) hK rfl (fun hb14 => ?_) (fun hb14 => ?_)
            · have h := bif_t hb14 h
              refine wp_seq ?_
              refine wp_region_lit ?_
              refine s1 hK rfl rfl rfl rfl fun a hK => ?_
              refine wpList_nil (nm_then ?_)
              refine wp_ret (rt_then ?_)
              have h := Option.some.inj h
              subst h
              exact finR1 hK rfl (RV.tmp hK rfl) ⟨rfl, hM.ext⟩
            · have h := bif_f hb14 h
              refine wp_skip (nm_then ?_)
              refine wp_seq ?_
              refine wp_seq ?_
              refine wp_region_lit ?_
              refine s_val hK rfl rfl rfl (r_fa fa92_6 hK rfl rfl) fun a hK => ?_
              refine s_val hK rfl rfl rfl (r_ldb t13 hM 1 hb4 6 hK rfl rfl rfl rfl rfl) fun a hK => ?_
              refine s_val hK rfl rfl rfl (r_fa fa92_6 hK rfl rfl) fun a hK => ?_
              refine s_val hK rfl rfl rfl (r_ldb t13 hM 0 hb7 6 hK rfl rfl rfl rfl rfl) fun a hK => ?_
              refine s1 hK rfl rfl rfl rfl fun a hK => ?_
              refine wpList_nil (nm_then ?_)
              refine c_cond (b := a1.fCost != b2.fCost) hK rfl (fun hb15 => ?_) (fun hb15 => ?_)
              · have h := bif_t hb15 h
                refine wp_seq ?_
                refine wp_region_lit ?_
                refine s1 hK rfl rfl rfl rfl fun a hK => ?_
                refine wpList_nil (nm_then ?_)
                refine wp_ret (rt_then ?_)
                have h := Option.some.inj h
                subst h
                exact finR1 hK rfl (RV.tmp hK rfl) ⟨rfl, hM.ext⟩
              · have h := bif_f hb15 h
                refine wp_skip (nm_then ?_)
                refine wp_seq ?_
                refine wp_region_lit ?_
                refine s1 hK rfl rfl rfl rfl fun a hK => ?_
                refine wpList_nil (nm_then ?_)
                refine wp_ret ?_
                have h := Option.some.inj h
                subst h
                exact finR1 hK rfl (RV.tmp hK rfl) ⟨rfl, hM.ext⟩

theorem c_laws_eqTypeS (fu : Nat) {w0 : World} (a1 : List Typ) (b5 : List Typ) {v2 : Value} {F3 : List Nat} (hp4 : rd w0 F3 [v2] a1) {v6 : Value} {F7 : List Nat} (hp8 : rd w0 F7 [v6] b5) {r : Bool}
    (h : d_laws_eqTypeS fu a1 b5 = some r) :
    Calls Tryz.prog 81 #[v2, v6] w0 fun e w => e = .returned (.bool (r)) ∧ Ext [] w0 w := by
  refine enter (vs := [_, _]) Tryz.func81 rfl Tryz.ntmps81 rfl fun a hK => ?_
  have hM := St.start w0
  unfold d_laws_eqTypeS at h
  refine wp_seq ?_
  refine wp_region_lit ?_
  refine s1 hK rfl rfl rfl rfl fun a hK => ?_
  refine wpList_nil (nm_then ?_)
  refine wp_seq ?_
  refine wp_seq ?_
  refine wp_region_lit ?_
  refine s1 hK rfl rfl rfl rfl fun a hK => ?_
  refine s_val hK rfl rfl rfl (r_len (α := Typ) hp4 hK Tryz.underlying37 rfl rfl) fun a hK => ?_
  refine s1 hK rfl rfl rfl rfl fun a hK => ?_
  refine s_val hK rfl rfl rfl (r_len (α := Typ) hp8 hK Tryz.underlying37 rfl rfl) fun a hK => ?_
  refine s1 hK rfl rfl rfl rfl fun a hK => ?_
  refine wpList_nil (nm_then ?_)
  refine c_cond (b := ((a1.length : Int)) != ((b5.length : Int))) hK rfl (fun hb9 => ?_) (fun hb9 => ?_)
  · have h := bif_t hb9 h
    refine wp_seq ?_
    refine wp_region_lit ?_
    refine s1 hK rfl rfl rfl rfl fun a hK => ?_
    refine wpList_nil (nm_then ?_)
    refine wp_ret (rt_then ?_)
    have h := Option.some.inj h
    subst h
    exact finR1 hK rfl (RV.tmp hK rfl) ⟨rfl, hM.ext⟩
  · have h := bif_f hb9 h
    refine wp_skip (nm_then ?_)
    refine wp_seq ?_
    refine wp_seq ?_
    refine wp_region_lit ?_
    refine s1 hK rfl rfl rfl rfl fun a hK => ?_
    refine wpList_nil (nm_then ?_)
    refine wp_block ?_
    refine c_loop (fun n a w => ∃ (i36 : Int), K 27 [(0, v2), (1, v6), (5, .int .i64 (i36))] a ∧ St [] w0 w [] ∧ d_laws_eqTypeS_L1 fu a1 b5 n i36 = some r) ?_ ?_ fu _ _ ?_
    · rintro a w ⟨_, _, _, h⟩
      cases (show none = some _ from h)
    · rintro m37 a w35 ⟨i36, hK, hM, h⟩
      rw [d_laws_eqTypeS_L1_s] at h
      unfold d_laws_eqTypeS_L1_B at h
      refine wp_seq ?_
      refine wp_seq ?_
      refine wp_region_lit ?_
      iterate 2 (refine s1 hK rfl rfl rfl rfl fun a hK => ?_)
      refine s_val hK rfl rfl rfl (r_len (α := Typ) hp4 hK Tryz.underlying37 rfl rfl) fun a hK => ?_
      refine s1 hK rfl rfl rfl rfl fun a hK => ?_
      refine wpList_nil (nm_then ?_)
      refine c_cond (b := decide (i36 < ((a1.length : Int)))) hK rfl (fun hb38 => ?_) (fun hb38 => ?_)
      · have h := bif_t hb38 h
        refine wp_skip (nm_then ?_)
        refine wp_seq ?_
        refine wp_block ?_
        refine wp_seq ?_
        refine d_go [] mixo hM rfl fun w39 hMd => ?_
        have hM := hMd
        have hS := Ext.refl ([] : List Nat) w39
        refine d_pure hK 0 rfl (by kernel_rfl) (by kernel_rfl) (by kernel_rfl) rfl rfl rfl hS (fun _ _ _ h => h) rfl fun a hK => ?_
        refine d_pure hK 1 rfl (by kernel_rfl) (by kernel_rfl) (by kernel_rfl) rfl rfl rfl hS (fun _ _ _ h => h) rfl fun a hK => ?_
        obtain ⟨x40, hx41, h⟩ := obind_some h
        refine d_take hK 2 rfl (by kernel_rfl) (by kernel_rfl) (by kernel_rfl) rfl rfl rfl hS (fun _ _ _ h => h) (fun w hS => r_ixa hp4 hx41 hK ts37 rfl rfl rfl) fun a hK => ?_
        refine d_take hK 3 rfl (by kernel_rfl) (by kernel_rfl) (by kernel_rfl) rfl rfl rfl hS (fun _ _ _ h => h) (fun w hS => r_lde hp4 ((hMd.step hS).a00 (Enc.rd_lt hp4)) hx41 ta92 hK rfl rfl) fun a hK => ?_
        refine d_pure hK 4 rfl (by kernel_rfl) (by kernel_rfl) (by kernel_rfl) rfl rfl rfl hS (fun _ _ _ h => h) rfl fun a hK => ?_
        refine d_pure hK 5 rfl (by kernel_rfl) (by kernel_rfl) (by kernel_rfl) rfl rfl rfl hS (fun _ _ _ h => h) rfl fun a hK => ?_
        obtain ⟨x42, hx43, h⟩ := obind_some h
        refine d_take hK 6 rfl (by kernel_rfl) (by kernel_rfl) (by kernel_rfl) rfl rfl rfl hS (fun _ _ _ h => h) (fun w hS => r_ixa hp8 hx43 hK ts37 rfl rfl rfl) fun a hK => ?_
        refine d_take hK 7 rfl (by kernel_rfl) (by kernel_rfl) (by kernel_rfl) rfl rfl rfl hS (fun _ _ _ h => h) (fun w hS => r_lde hp8 ((hMd.step hS).a00 (Enc.rd_lt hp8)) hx43 ta92 hK rfl rfl) fun a hK => ?_
        refine d_one 8 (by kernel_rfl) rfl ?_
        obtain ⟨x44, hx45, h⟩ := obind_some h
        refine s_call hK Tryz.call145 rfl rfl rfl rfl rfl (c_laws_eqType fu (x40 : Typ) (x42 : Typ)  hx45) fun e46 w47 hR => ?_
        obtain ⟨rfl, hE⟩ := hR
        refine ⟨_, rfl, fun a hK => ?_⟩
        have hM := hM.step hE
        have hS := hS.trans hE (by simp)
        refine wpList_nil ⟨hS, ?_⟩
        refine d_pure hK 9 rfl (by kernel_rfl) (by kernel_rfl) (by kernel_rfl) rfl rfl rfl hS (fun _ _ _ h => h) rfl fun a hK => ?_
        refine d_done (by kernel_rfl) ?_
        refine (nm_then ?_)
        refine c_cond (b := !x44) hK rfl (fun hb48 => ?_) (fun hb48 => ?_)
        · have h := bif_t hb48 h
          refine wp_seq ?_
          refine wp_region_lit ?_
          refine s1 hK rfl rfl rfl rfl fun a hK => ?_
          refine wpList_nil (nm_then ?_)
          refine wp_ret (rt_block (rt_then (rt_then (rt_block (rt_then ?_)))))
          have h := Option.some.inj h
          subst h
          exact finR1 hK rfl (RV.tmp hK rfl) ⟨rfl, hM.ext⟩
        · have h := bif_f hb48 h
          refine wp_skip (nm_block (nm_then ?_))
          refine wp_region_lit ?_
          iterate 3 (refine s1 hK rfl rfl rfl rfl fun a hK => ?_)
          refine wpList_nil (nm_then ?_)
          exact ⟨w64 (i36 + 1), hK.keep [0, 1, 5] rfl, hM.sel [] rfl (by decide), h⟩
      · have h := bif_f hb38 h
        refine wp_exit (ex_then (ex_then (ex_same (nm_then ?_))))
        refine wp_seq ?_
        refine wp_region_lit ?_
        refine s1 hK rfl rfl rfl rfl fun a hK => ?_
        refine wpList_nil (nm_then ?_)
        refine wp_ret ?_
        have h := Option.some.inj h
        subst h
        exact finR1 hK rfl (RV.tmp hK rfl) ⟨rfl, hM.ext⟩
    · exact ⟨0, hK.keep [0, 1, 5] rfl, hM.sel [] rfl (by decide), h⟩

theorem c_laws_eqItem (fu : Nat) {w0 : World} (a1 : Item) (b2 : Item)  {r : Bool}
    (h : d_laws_eqItem fu a1 b2 = some r) :
    Calls Tryz.prog 146 #[.agg (Flat.e (a1)).toArray, .agg (Flat.e (b2)).toArray] w0 fun e w => e = .returned (.bool (r)) ∧ Ext [] w0 w := by
  refine enter (vs := [_, _]) Tryz.func146 rfl Tryz.ntmps146 rfl fun a hK => ?_
  have hM := St.start w0
  unfold d_laws_eqItem at h
  refine wp_seq ?_
  refine wp_region_lit ?_
  refine s_box (cs := [.int .i64 (a1.fId), .int .i64 (a1.fW), .int .i64 (a1.fH), .int .i64 (a1.fD), .int .i64 (a1.fGram), .int .i64 (a1.fClass), .int .i64 (a1.fCount)]) hM hK rfl rfl rfl rfl rfl rfl fun b3 w5 a hK hM hE hb4 => ?_
  refine s_box (cs := [.int .i64 (b2.fId), .int .i64 (b2.fW), .int .i64 (b2.fH), .int .i64 (b2.fD), .int .i64 (b2.fGram), .int .i64 (b2.fClass), .int .i64 (b2.fCount)]) hM hK rfl rfl rfl rfl rfl rfl fun b6 w8 a hK hM hE hb7 => ?_
  refine s1 hK rfl rfl rfl rfl fun a hK => ?_
  refine wpList_nil (nm_then ?_)
  refine wp_seq ?_
  refine wp_seq ?_
  refine wp_region_lit ?_
  refine s_val hK rfl rfl rfl (r_fa fa120_0 hK rfl rfl) fun a hK => ?_
  refine s_val hK rfl rfl rfl (r_ldb t13 hM 1 hb4 0 hK rfl rfl rfl rfl rfl) fun a hK => ?_
  refine s_val hK rfl rfl rfl (r_fa fa120_0 hK rfl rfl) fun a hK => ?_
  refine s_val hK rfl rfl rfl (r_ldb t13 hM 0 hb7 0 hK rfl rfl rfl rfl rfl) fun a hK => ?_
  refine s1 hK rfl rfl rfl rfl fun a hK => ?_
  refine wpList_nil (nm_then ?_)
  refine c_cond (b := a1.fId != b2.fId) hK rfl (fun hb9 => ?_) (fun hb9 => ?_)
  · have h := bif_t hb9 h
    refine wp_seq ?_
    refine wp_region_lit ?_
    refine s1 hK rfl rfl rfl rfl fun a hK => ?_
    refine wpList_nil (nm_then ?_)
    refine wp_ret (rt_then ?_)
    have h := Option.some.inj h
    subst h
    exact finR1 hK rfl (RV.tmp hK rfl) ⟨rfl, hM.ext⟩
  · have h := bif_f hb9 h
    refine wp_skip (nm_then ?_)
    refine wp_seq ?_
    refine wp_seq ?_
    refine wp_region_lit ?_
    refine s_val hK rfl rfl rfl (r_fa fa120_1 hK rfl rfl) fun a hK => ?_
    refine s_val hK rfl rfl rfl (r_ldb t13 hM 1 hb4 1 hK rfl rfl rfl rfl rfl) fun a hK => ?_
    refine s_val hK rfl rfl rfl (r_fa fa120_1 hK rfl rfl) fun a hK => ?_
    refine s_val hK rfl rfl rfl (r_ldb t13 hM 0 hb7 1 hK rfl rfl rfl rfl rfl) fun a hK => ?_
    refine s1 hK rfl rfl rfl rfl fun a hK => ?_
    refine wpList_nil (nm_then ?_)
    refine c_cond (b := a1.fW != b2.fW) hK rfl (fun hb10 => ?_) (fun hb10 => ?_)
    · have h := bif_t hb10 h
      refine wp_seq ?_
      refine wp_region_lit ?_
      refine s1 hK rfl rfl rfl rfl fun a hK => ?_
      refine wpList_nil (nm_then ?_)
      refine wp_ret (rt_then ?_)
      have h := Option.some.inj h
      subst h
      exact finR1 hK rfl (RV.tmp hK rfl) ⟨rfl, hM.ext⟩
    · have h := bif_f hb10 h
      refine wp_skip (nm_then ?_)
      refine wp_seq ?_
      refine wp_seq ?_
      refine wp_region_lit ?_
      refine s_val hK rfl rfl rfl (r_fa fa120_2 hK rfl rfl) fun a hK => ?_
      refine s_val hK rfl rfl rfl (r_ldb t13 hM 1 hb4 2 hK rfl rfl rfl rfl rfl) fun a hK => ?_
      refine s_val hK rfl rfl rfl (r_fa fa120_2 hK rfl rfl) fun a hK => ?_
      refine s_val hK rfl rfl rfl (r_ldb t13 hM 0 hb7 2 hK rfl rfl rfl rfl rfl) fun a hK => ?_
      refine s1 hK rfl rfl rfl rfl fun a hK => ?_
      refine wpList_nil (nm_then ?_)
      refine c_cond (b := a1.fH != b2.fH) hK rfl (fun hb11 => ?_) (fun hb11 => ?_)
      · have h := bif_t hb11 h
        refine wp_seq ?_
        refine wp_region_lit ?_
        refine s1 hK rfl rfl rfl rfl fun a hK => ?_
        refine wpList_nil (nm_then ?_)
        refine wp_ret (rt_then ?_)
        have h := Option.some.inj h
        subst h
        exact finR1 hK rfl (RV.tmp hK rfl) ⟨rfl, hM.ext⟩
      · have h := bif_f hb11 h
        refine wp_skip (nm_then ?_)
        refine wp_seq ?_
        refine wp_seq ?_
        refine wp_region_lit ?_
        refine s_val hK rfl rfl rfl (r_fa fa120_3 hK rfl rfl) fun a hK => ?_
        refine s_val hK rfl rfl rfl (r_ldb t13 hM 1 hb4 3 hK rfl rfl rfl rfl rfl) fun a hK => ?_
        refine s_val hK rfl rfl rfl (r_fa fa120_3 hK rfl rfl) fun a hK => ?_
        refine s_val hK rfl rfl rfl (r_ldb t13 hM 0 hb7 3 hK rfl rfl rfl rfl rfl) fun a hK => ?_
        refine s1 hK rfl rfl rfl rfl fun a hK => ?_
        refine wpList_nil (nm_then ?_)
        refine c_cond (b := a1.fD != b2.fD) hK rfl (fun hb12 => ?_) (fun hb12 => ?_)
        · have h := bif_t hb12 h
          refine wp_seq ?_
          refine wp_region_lit ?_
          refine s1 hK rfl rfl rfl rfl fun a hK => ?_
          refine wpList_nil (nm_then ?_)
          refine wp_ret (rt_then ?_)
          have h := Option.some.inj h
          subst h
          exact finR1 hK rfl (RV.tmp hK rfl) ⟨rfl, hM.ext⟩
        · have h := bif_f hb12 h
          refine wp_skip (nm_then ?_)
          refine wp_seq ?_
          refine wp_seq ?_
          refine wp_region_lit ?_
          refine s_val hK rfl rfl rfl (r_fa fa120_4 hK rfl rfl) fun a hK => ?_
          refine s_val hK rfl rfl rfl (r_ldb t13 hM 1 hb4 4 hK rfl rfl rfl rfl rfl) fun a hK => ?_
          refine s_val hK rfl rfl rfl (r_fa fa120_4 hK rfl rfl) fun a hK => ?_
          refine s_val hK rfl rfl rfl (r_ldb t13 hM 0 hb7 4 hK rfl rfl rfl rfl rfl) fun a hK => ?_
          refine s1 hK rfl rfl rfl rfl fun a hK => ?_
          have hK := hK.keep [2, 3, 29] rfl
          refine wpList_nil (nm_then ?_)
          refine c_cond (b := a1.fGram != b2.fGram) hK rfl (fun hb13 => ?_) (fun hb13 => ?_)
          · have h := bif_t hb13 h
            refine wp_seq ?_
            refine wp_region_lit ?_
            refine s1 hK rfl rfl rfl rfl fun a hK => ?_
            refine wpList_nil (nm_then ?_)
            refine wp_ret (rt_then ?_)
            have h := Option.some.inj h
            subst h
            exact finR1 hK rfl (RV.tmp hK rfl) ⟨rfl, hM.ext⟩
          · have h := bif_f hb13 h
            refine wp_skip (nm_then ?_)
            refine wp_seq ?_
            refine wp_seq ?_
            refine wp_region_lit ?_
            refine s_val hK rfl rfl rfl (r_fa fa120_5 hK rfl rfl) fun a hK => ?_
            refine s_val hK rfl rfl rfl (r_ldb t13 hM 1 hb4 5 hK rfl rfl rfl rfl rfl) fun a hK => ?_
            refine s_val hK rfl rfl rfl (r_fa fa120_5 hK rfl rfl) fun a hK => ?_
            refine s_val hK rfl rfl rfl (r_ldb t13 hM 0 hb7 5 hK rfl rfl rfl rfl rfl) fun a hK => ?_
            refine s1 hK rfl rfl rfl rfl fun a hK => ?_
            refine wpList_nil (nm_then ?_)
            refine c_cond (b := a1.fClass != b2.fClass) hK rfl (fun hb14 => ?_) (fun hb14 => ?_)
            · have h := bif_t hb14 h
              refine wp_seq ?_
              refine wp_region_lit ?_
              refine s1 hK rfl rfl rfl rfl fun a hK => ?_
              refine wpList_nil (nm_then ?_)
              refine wp_ret (rt_then ?_)
              have h := Option.some.inj h
              subst h
              exact finR1 hK rfl (RV.tmp hK rfl) ⟨rfl, hM.ext⟩
            · have h := bif_f hb14 h
              refine wp_skip (nm_then ?_)
              refine wp_seq ?_
              refine wp_seq ?_
              refine wp_region_lit ?_
              refine s_val hK rfl rfl rfl (r_fa fa120_6 hK rfl rfl) fun a hK => ?_
              refine s_val hK rfl rfl rfl (r_ldb t13 hM 1 hb4 6 hK rfl rfl rfl rfl rfl) fun a hK => ?_
              refine s_val hK rfl rfl rfl (r_fa fa120_6 hK rfl rfl) fun a hK => ?_
              refine s_val hK rfl rfl rfl (r_ldb t13 hM 0 hb7 6 hK rfl rfl rfl rfl rfl) fun a hK => ?_
              refine s1 hK rfl rfl rfl rfl fun a hK => ?_
              refine wpList_nil (nm_then ?_)
              refine c_cond (b := a1.fCount != b2.fCount) hK rfl (fun hb15 => ?_) (fun hb15 => ?_)
              · have h := bif_t hb15 h
                refine wp_seq ?_
                refine wp_region_lit ?_
                refine s1 hK rfl rfl rfl rfl fun a hK => ?_
                refine wpList_nil (nm_then ?_)
                refine wp_ret (rt_then ?_)
                have h := Option.some.inj h
                subst h
                exact finR1 hK rfl (RV.tmp hK rfl) ⟨rfl, hM.ext⟩
              · have h := bif_f hb15 h
                refine wp_skip (nm_then ?_)
                refine wp_seq ?_
                refine wp_region_lit ?_
                refine s1 hK rfl rfl rfl rfl fun a hK => ?_
                refine wpList_nil (nm_then ?_)
                refine wp_ret ?_
                have h := Option.some.inj h
                subst h
                exact finR1 hK rfl (RV.tmp hK rfl) ⟨rfl, hM.ext⟩

theorem c_laws_eqItemS (fu : Nat) {w0 : World} (a1 : List Item) (b5 : List Item) {v2 : Value} {F3 : List Nat} (hp4 : rd w0 F3 [v2] a1) {v6 : Value} {F7 : List Nat} (hp8 : rd w0 F7 [v6] b5) {r : Bool}
    (h : d_laws_eqItemS fu a1 b5 = some r) :
    Calls Tryz.prog 82 #[v2, v6] w0 fun e w => e = .returned (.bool (r)) ∧ Ext [] w0 w := by
  refine enter (vs := [_, _]) Tryz.func82 rfl Tryz.ntmps82 rfl fun a hK => ?_
  have hM := St.start w0
  unfold d_laws_eqItemS at h
  refine wp_seq ?_
  refine wp_region_lit ?_
  refine s1 hK rfl rfl rfl rfl fun a hK => ?_
  refine wpList_nil (nm_then ?_)
  refine wp_seq ?_
  refine wp_seq ?_
  refine wp_region_lit ?_
  refine s1 hK rfl rfl rfl rfl fun a hK => ?_
  refine s_val hK rfl rfl rfl (r_len (α := Item) hp4 hK Tryz.underlying38 rfl rfl) fun a hK => ?_
  refine s1 hK rfl rfl rfl rfl fun a hK => ?_
  refine s_val hK rfl rfl rfl (r_len (α := Item) hp8 hK Tryz.underlying38 rfl rfl) fun a hK => ?_
  refine s1 hK rfl rfl rfl rfl fun a hK => ?_
  refine wpList_nil (nm_then ?_)
  refine c_cond (b := ((a1.length : Int)) != ((b5.length : Int))) hK rfl (fun hb9 => ?_) (fun hb9 => ?_)
  · have h := bif_t hb9 h
    refine wp_seq ?_
    refine wp_region_lit ?_
    refine s1 hK rfl rfl rfl rfl fun a hK => ?_
    refine wpList_nil (nm_then ?_)
    refine wp_ret (rt_then ?_)
    have h := Option.some.inj h
    subst h
    exact finR1 hK rfl (RV.tmp hK rfl) ⟨rfl, hM.ext⟩
  · have h := bif_f hb9 h
    refine wp_skip (nm_then ?_)
    refine wp_seq ?_
    refine wp_seq ?_
    refine wp_region_lit ?_
    refine s1 hK rfl rfl rfl rfl fun a hK => ?_
    refine wpList_nil (nm_then ?_)
    refine wp_block ?_
    refine c_loop (fun n a w => ∃ (i36 : Int), K 27 [(0, v2), (1, v6), (5, .int .i64 (i36))] a ∧ St [] w0 w [] ∧ d_laws_eqItemS_L1 fu a1 b5 n i36 = some r) ?_ ?_ fu _ _ ?_
    · rintro a w ⟨_, _, _, h⟩
      cases (show none = some _ from h)
    · rintro m37 a w35 ⟨i36, hK, hM, h⟩
      rw [d_laws_eqItemS_L1_s] at h
      unfold d_laws_eqItemS_L1_B at h
      refine wp_seq ?_
      refine wp_seq ?_
      refine wp_region_lit ?_
      iterate 2 (refine s1 hK rfl rfl rfl rfl fun a hK => ?_)
      refine s_val hK rfl rfl rfl (r_len (α := Item) hp4 hK Tryz.underlying38 rfl rfl) fun a hK => ?_
      refine s1 hK rfl rfl rfl rfl fun a hK => ?_
      refine wpList_nil (nm_then ?_)
      refine c_cond (b := decide (i36 < ((a1.length : Int)))) hK rfl (fun hb38 => ?_) (fun hb38 => ?_)
      · have h := bif_t hb38 h
        refine wp_skip (nm_then ?_)
        refine wp_seq ?_
        refine wp_block ?_
        refine wp_seq ?_
        refine d_go [] mixo hM rfl fun w39 hMd => ?_
        have hM := hMd
        have hS := Ext.refl ([] : List Nat) w39
        refine d_pure hK 0 rfl (by kernel_rfl) (by kernel_rfl) (by kernel_rfl) rfl rfl rfl hS (fun _ _ _ h => h) rfl fun a hK => ?_
        refine d_pure hK 1 rfl (by kernel_rfl) (by kernel_rfl) (by kernel_rfl) rfl rfl rfl hS (fun _ _ _ h => h) rfl fun a hK => ?_
        obtain ⟨x40, hx41, h⟩ := obind_some h
        refine d_take hK 2 rfl (by kernel_rfl) (by kernel_rfl) (by kernel_rfl) rfl rfl rfl hS (fun _ _ _ h => h) (fun w hS => r_ixa hp4 hx41 hK ts38 rfl rfl rfl) fun a hK => ?_
        refine d_take hK 3 rfl (by kernel_rfl) (by kernel_rfl) (by kernel_rfl) rfl rfl rfl hS (fun _ _ _ h => h) (fun w hS => r_lde hp4 ((hMd.step hS).a00 (Enc.rd_lt hp4)) hx41 ta120 hK rfl rfl) fun a hK => ?_
        refine d_pure hK 4 rfl (by kernel_rfl) (by kernel_rfl) (by kernel_rfl) rfl rfl rfl hS (fun _ _ _ h => h) rfl fun a hK => ?_
        refine d_pure hK 5 rfl (by kernel_rfl) (by kernel_rfl) (by kernel_rfl) rfl rfl rfl hS (fun _ _ _ h => h) rfl fun a hK => ?_
        obtain ⟨x42, hx43, h⟩ := obind_some h
        refine d_take hK 6 rfl (by kernel_rfl) (by kernel_rfl) (by kernel_rfl) rfl rfl rfl hS (fun _ _ _ h => h) (fun w hS => r_ixa hp8 hx43 hK ts38 rfl rfl rfl) fun a hK => ?_
        refine d_take hK 7 rfl (by kernel_rfl) (by kernel_rfl) (by kernel_rfl) rfl rfl rfl hS (fun _ _ _ h => h) (fun w hS => r_lde hp8 ((hMd.step hS).a00 (Enc.rd_lt hp8)) hx43 ta120 hK rfl rfl) fun a hK => ?_
        refine d_one 8 (by kernel_rfl) rfl ?_
        obtain ⟨x44, hx45, h⟩ := obind_some h
        refine s_call hK Tryz.call146 rfl rfl rfl rfl rfl (c_laws_eqItem fu (x40 : Item) (x42 : Item)  hx45) fun e46 w47 hR => ?_
        obtain ⟨rfl, hE⟩ := hR
        refine ⟨_, rfl, fun a hK => ?_⟩
        have hM := hM.step hE
        have hS := hS.trans hE (by simp)
        refine wpList_nil ⟨hS, ?_⟩
        refine d_pure hK 9 rfl (by kernel_rfl) (by kernel_rfl) (by kernel_rfl) rfl rfl rfl hS (fun _ _ _ h => h) rfl fun a hK => ?_
        refine d_done (by kernel_rfl) ?_
        refine (nm_then ?_)
        refine c_cond (b := !x44) hK rfl (fun hb48 => ?_) (fun hb48 => ?_)
        · have h := bif_t hb48 h
          refine wp_seq ?_
          refine wp_region_lit ?_
          refine s1 hK rfl rfl rfl rfl fun a hK => ?_
          refine wpList_nil (nm_then ?_)
          refine wp_ret (rt_block (rt_then (rt_then (rt_block (rt_then ?_)))))
          have h := Option.some.inj h
          subst h
          exact finR1 hK rfl (RV.tmp hK rfl) ⟨rfl, hM.ext⟩
        · have h := bif_f hb48 h
          refine wp_skip (nm_block (nm_then ?_))
          refine wp_region_lit ?_
          iterate 3 (refine s1 hK rfl rfl rfl rfl fun a hK => ?_)
          refine wpList_nil (nm_then ?_)
          exact ⟨w64 (i36 + 1), hK.keep [0, 1, 5] rfl, hM.sel [] rfl (by decide), h⟩
      · have h := bif_f hb38 h
        refine wp_exit (ex_then (ex_then (ex_same (nm_then ?_))))
        refine wp_seq ?_
        refine wp_region_lit ?_
        refine s1 hK rfl rfl rfl rfl fun a hK => ?_
        refine wpList_nil (nm_then ?_)
        refine wp_ret ?_
        have h := Option.some.inj h
        subst h
        exact finR1 hK rfl (RV.tmp hK rfl) ⟨rfl, hM.ext⟩
    · exact ⟨0, hK.keep [0, 1, 5] rfl, hM.sel [] rfl (by decide), h⟩

theorem c_laws_eqRequest (fu : Nat) {w0 : World} (a1 : Request) (b5 : Request) {cs2 : List Value} {F3 : List Nat} (hp4 : rd w0 F3 cs2 a1) {cs6 : List Value} {F7 : List Nat} (hp8 : rd w0 F7 cs6 b5) {r : Bool}
    (h : d_laws_eqRequest fu a1 b5 = some r) :
    Calls Tryz.prog 21 #[.agg cs2.toArray, .agg cs6.toArray] w0 fun e w => e = .returned (.bool (r)) ∧ Ext [] w0 w := by
  refine enter (vs := [_, _]) Tryz.func21 rfl Tryz.ntmps21 rfl fun a hK => ?_
  have hM := St.start w0
  obtain ⟨v9, F10, v11, F12, v13, F14, rfl, rfl, hf15, hf16, hf17⟩ := hp4
  obtain ⟨v18, F19, v20, F21, v22, F23, rfl, rfl, hf24, hf25, hf26⟩ := hp8
  unfold d_laws_eqRequest at h
  refine wp_seq ?_
  refine wp_region_lit ?_
  refine s_box (cs := [.int .i64 (a1.fWay), .int .i64 (a1.fPallet.fW), .int .i64 (a1.fPallet.fD), .int .i64 (a1.fPallet.fH), .int .i64 (a1.fPallet.fGram), .int .i64 (a1.fClasses), v9, v11, .int .i64 (a1.fMaster), v13]) hM hK rfl rfl rfl rfl rfl rfl fun b27 w29 a hK hM hE hb28 => ?_
  refine s_box (cs := [.int .i64 (b5.fWay), .int .i64 (b5.fPallet.fW), .int .i64 (b5.fPallet.fD), .int .i64 (b5.fPallet.fH), .int .i64 (b5.fPallet.fGram), .int .i64 (b5.fClasses), v18, v20, .int .i64 (b5.fMaster), v22]) hM hK rfl rfl rfl rfl rfl rfl fun b30 w32 a hK hM hE hb31 => ?_
  refine s1 hK rfl rfl rfl rfl fun a hK => ?_
  refine wpList_nil (nm_then ?_)
  refine wp_seq ?_
  refine wp_seq ?_
  refine wp_region_lit ?_
  refine s_val hK rfl rfl rfl (r_fa fa40_0 hK rfl rfl) fun a hK => ?_
  refine s_val hK rfl rfl rfl (r_ldb t13 hM 1 hb28 0 hK rfl rfl rfl rfl rfl) fun a hK => ?_
  refine s_val hK rfl rfl rfl (r_fa fa40_0 hK rfl rfl) fun a hK => ?_
  refine s_val hK rfl rfl rfl (r_ldb t13 hM 0 hb31 0 hK rfl rfl rfl rfl rfl) fun a hK => ?_
  refine s1 hK rfl rfl rfl rfl fun a hK => ?_
  refine wpList_nil (nm_then ?_)
  refine c_cond (b := a1.fWay != b5.fWay) hK rfl (fun hb33 => ?_) (fun hb33 => ?_)
  · have h := bif_t hb33 h
    refine wp_seq ?_
    refine wp_region_lit ?_
    refine s1 hK rfl rfl rfl rfl fun a hK => ?_
    refine wpList_nil (nm_then ?_)
    refine wp_ret (rt_then ?_)
    have h := Option.some.inj h
    subst h
    exact finR1 hK rfl (RV.tmp hK rfl) ⟨rfl, hM.ext⟩
  · have h := bif_f hb33 h
    refine wp_skip (nm_then ?_)
    refine wp_seq ?_
    refine wp_seq ?_
    refine wp_region_lit ?_
    refine s_val hK rfl rfl rfl (r_fa fa40_1 hK rfl rfl) fun a hK => ?_
    refine s_val hK rfl rfl rfl (r_ldB ta35 hM 1 hb28 1 hK rfl rfl rfl rfl rfl rfl) fun a hK => ?_
    refine s_val hK rfl rfl rfl (r_fa fa40_1 hK rfl rfl) fun a hK => ?_
    refine s_val hK rfl rfl rfl (r_ldB ta35 hM 0 hb31 1 hK rfl rfl rfl rfl rfl rfl) fun a hK => ?_
    obtain ⟨x34, hx35, h⟩ := obind_some h
    refine s_call hK Tryz.call79 rfl rfl rfl rfl rfl (c_laws_eqPallet fu (a1.fPallet : Pallet) (b5.fPallet : Pallet)  hx35) fun e36 w37 hR => ?_
    obtain ⟨rfl, hE⟩ := hR
    refine ⟨_, rfl, fun a hK => ?_⟩
    have hM := hM.step hE
    refine s1 hK rfl rfl rfl rfl fun a hK => ?_
    refine wpList_nil (nm_then ?_)
    refine c_cond (b := !x34) hK rfl (fun hb38 => ?_) (fun hb38 => ?_)
    · have h := bif_t hb38 h
      refine wp_seq ?_
      refine wp_region_lit ?_
      refine s1 hK rfl rfl rfl rfl fun a hK => ?_
      refine wpList_nil (nm_then ?_)
      refine wp_ret (rt_then ?_)
      have h := Option.some.inj h
      subst h
      exact finR1 hK rfl (RV.tmp hK rfl) ⟨rfl, hM.ext⟩
    · have h := bif_f hb38 h
      refine wp_skip (nm_then ?_)
      refine wp_seq ?_
      refine wp_seq ?_
      refine wp_region_lit ?_
      refine s_val hK rfl rfl rfl (r_fa fa40_2 hK rfl rfl) fun a hK => ?_
      refine s_val hK rfl rfl rfl (r_ldb t13 hM 1 hb28 5 hK rfl rfl rfl rfl rfl) fun a hK => ?_
      refine s_val hK rfl rfl rfl (r_fa fa40_2 hK rfl rfl) fun a hK => ?_
      refine s_val hK rfl rfl rfl (r_ldb t13 hM 0 hb31 5 hK rfl rfl rfl rfl rfl) fun a hK => ?_
      refine s1 hK rfl rfl rfl rfl fun a hK => ?_
      refine wpList_nil (nm_then ?_)
      refine c_cond (b := a1.fClasses != b5.fClasses) hK rfl (fun hb39 => ?_) (fun hb39 => ?_)
      · have h := bif_t hb39 h
        refine wp_seq ?_
        refine wp_region_lit ?_
        refine s1 hK rfl rfl rfl rfl fun a hK => ?_
        refine wpList_nil (nm_then ?_)
        refine wp_ret (rt_then ?_)
        have h := Option.some.inj h
        subst h
        exact finR1 hK rfl (RV.tmp hK rfl) ⟨rfl, hM.ext⟩
      · have h := bif_f hb39 h
        refine wp_skip (nm_then ?_)
        refine wp_seq ?_
        refine wp_seq ?_
        refine wp_region_lit ?_
        refine s_val hK rfl rfl rfl (r_fa fa40_3 hK rfl rfl) fun a hK => ?_
        refine s_val hK rfl rfl rfl (r_ldb t136 hM 1 hb28 6 hK rfl rfl rfl rfl rfl) fun a hK => ?_
        refine s_val hK rfl rfl rfl (r_fa fa40_3 hK rfl rfl) fun a hK => ?_
        refine s_val hK rfl rfl rfl (r_ldb t136 hM 0 hb31 6 hK rfl rfl rfl rfl rfl) fun a hK => ?_
        obtain ⟨x40, hx41, h⟩ := obind_some h
        refine s_call hK Tryz.call80 rfl rfl rfl rfl rfl (c_laws_eqPairS fu _ _ (Enc.rd_agr hf15 (hM.a00 (Enc.rd_lt hf15))) (Enc.rd_agr hf24 (hM.a00 (Enc.rd_lt hf24))) hx41) fun e42 w43 hR => ?_
        obtain ⟨rfl, hE⟩ := hR
        refine ⟨_, rfl, fun a hK => ?_⟩
        have hM := hM.step hE
        refine s1 hK rfl rfl rfl rfl fun a hK => ?_
        have hK := hK.keep [2, 3, 26] rfl
        refine wpList_nil (nm_then ?_)
        refine c_cond (b := !x40) hK rfl (fun hb44 => ?_) (fun hb44 => ?_)
        · have h := bif_t hb44 h
          refine wp_seq ?_
          refine wp_region_lit ?_
          refine s1 hK rfl rfl rfl rfl fun a hK => ?_
          refine wpList_nil (nm_then ?_)
          refine wp_ret (rt_then ?_)
          have h := Option.some.inj h
          subst h
          exact finR1 hK rfl (RV.tmp hK rfl) ⟨rfl, hM.ext⟩
        · have h := bif_f hb44 h
          refine wp_skip (nm_then ?_)
          refine wp_seq ?_
          refine wp_seq ?_
          refine wp_region_lit ?_
          refine s_val hK rfl rfl rfl (r_fa fa40_4 hK rfl rfl) fun a hK => ?_
          refine s_val hK rfl rfl rfl (r_ldb t137 hM 1 hb28 7 hK rfl rfl rfl rfl rfl) fun a hK => ?_
          refine s_val hK rfl rfl rfl (r_fa fa40_4 hK rfl rfl) fun a hK => ?_
          refine s_val hK rfl rfl rfl (r_ldb t137 hM 0 hb31 7 hK rfl rfl rfl rfl rfl) fun a hK => ?_
          obtain ⟨x45, hx46, h⟩ := obind_some h
          refine s_call hK Tryz.call81 rfl rfl rfl rfl rfl (c_laws_eqTypeS fu _ _ (Enc.rd_agr hf16 (hM.a00 (Enc.rd_lt hf16))) (Enc.rd_agr hf25 (hM.a00 (Enc.rd_lt hf25))) hx46) fun e47 w48 hR => ?_
          obtain ⟨rfl, hE⟩ := hR
          refine ⟨_, rfl, fun a hK => ?_⟩
          have hM := hM.step hE
          refine s1 hK rfl rfl rfl rfl fun a hK => ?_
          refine wpList_nil (nm_then ?_)
          refine c_cond (b := !x45) hK rfl (fun hb49 => ?_) (fun hb49 => ?_)
          · have h := bif_t hb49 h
            refine wp_seq ?_
            refine wp_region_lit ?_
            refine s1 hK rfl rfl rfl rfl fun a hK => ?_
            refine wpList_nil (nm_then ?_)
            refine wp_ret (rt_then ?_)
            have h := Option.some.inj h
            subst h
            exact finR1 hK rfl (RV.tmp hK rfl) ⟨rfl, hM.ext⟩
          · have h := bif_f hb49 h
            refine wp_skip (nm_then ?_)
            refine wp_seq ?_
            refine wp_seq ?_
            refine wp_region_lit ?_
            refine s_val hK rfl rfl rfl (r_fa fa40_5 hK rfl rfl) fun a hK => ?_
            refine s_val hK rfl rfl rfl (r_ldb t13 hM 1 hb28 8 hK rfl rfl rfl rfl rfl) fun a hK => ?_
            refine s_val hK rfl rfl rfl (r_fa fa40_5 hK rfl rfl) fun a hK => ?_
            refine s_val hK rfl rfl rfl (r_ldb t13 hM 0 hb31 8 hK rfl rfl rfl rfl rfl) fun a hK => ?_
            refine s1 hK rfl rfl rfl rfl fun a hK => ?_
            refine wpList_nil (nm_then ?_)
            refine c_cond (b := a1.fMaster != b5.fMaster) hK rfl (fun hb50 => ?_) (fun hb50 => ?_)
            · have h := bif_t hb50 h
              refine wp_seq ?_
              refine wp_region_lit ?_
              refine s1 hK rfl rfl rfl rfl fun a hK => ?_
              refine wpList_nil (nm_then ?_)
              refine wp_ret (rt_then ?_)
              have h := Option.some.inj h
              subst h
              exact finR1 hK rfl (RV.tmp hK rfl) ⟨rfl, hM.ext⟩
            · have h := bif_f hb50 h
              refine wp_skip (nm_then ?_)
              refine wp_seq ?_
              refine wp_seq ?_
              refine wp_region_lit ?_
              refine s_val hK rfl rfl rfl (r_fa fa40_6 hK rfl rfl) fun a hK => ?_
              refine s_val hK rfl rfl rfl (r_ldb t138 hM 1 hb28 9 hK rfl rfl rfl rfl rfl) fun a hK => ?_
              refine s_val hK rfl rfl rfl (r_fa fa40_6 hK rfl rfl) fun a hK => ?_
              refine s_val hK rfl rfl rfl (r_ldb t138 hM 0 hb31 9 hK rfl rfl rfl rfl rfl) fun a hK => ?_
              obtain ⟨x51, hx52, h⟩ := obind_some h
              refine s_call hK Tryz.call82 rfl rfl rfl rfl rfl (c_laws_eqItemS fu _ _ (Enc.rd_agr hf17 (hM.a00 (Enc.rd_lt hf17))) (Enc.rd_agr hf26 (hM.a00 (Enc.rd_lt hf26))) hx52) fun e53 w54 hR => ?_
              obtain ⟨rfl, hE⟩ := hR
              refine ⟨_, rfl, fun a hK => ?_⟩
              have hM := hM.step hE
              refine s1 hK rfl rfl rfl rfl fun a hK => ?_
              refine wpList_nil (nm_then ?_)
              refine c_cond (b := !x51) hK rfl (fun hb55 => ?_) (fun hb55 => ?_)
              · have h := bif_t hb55 h
                refine wp_seq ?_
                refine wp_region_lit ?_
                refine s1 hK rfl rfl rfl rfl fun a hK => ?_
                refine wpList_nil (nm_then ?_)
                refine wp_ret (rt_then ?_)
                have h := Option.some.inj h
                subst h
                exact finR1 hK rfl (RV.tmp hK rfl) ⟨rfl, hM.ext⟩
              · have h := bif_f hb55 h
                refine wp_skip (nm_then ?_)
                refine wp_seq ?_
                refine wp_region_lit ?_
                refine s1 hK rfl rfl rfl rfl fun a hK => ?_
                refine wpList_nil (nm_then ?_)
                refine wp_ret ?_
                have h := Option.some.inj h
                subst h
                exact finR1 hK rfl (RV.tmp hK rfl) ⟨rfl, hM.ext⟩

theorem c_laws_markPairS (fu : Nat) {w0 : World} (a1 : List Pair) (kv5 : Int) {v2 : Value} {F3 : List Nat} (hp4 : ow w0 F3 [v2] a1) {r : Int × (List Pair)}
    (h : d_laws_markPairS fu a1 kv5 = some r) :
    Calls Tryz.prog 85 #[v2, .int .i64 (kv5)] w0 fun e w => ∃ (H0 : List Nat), e = .returned (.int .i64 (r.1)) ∧ Ext F3 w0 w ∧ (∀ b ∈ H0, b ∈ F3 ∨ w0.heap.size ≤ b) ∧ ow w H0 [v2] r.2 := by
  refine enter (vs := [_, _]) Tryz.func85 rfl Tryz.ntmps85 rfl fun a hK => ?_
  have hM := St.start1 w0 (Enc.rd_lt (Enc.ow_rd hp4)) (Enc.ow_nd hp4)
  unfold d_laws_markPairS at h
  refine wp_seq ?_
  refine wp_region_lit ?_
  refine s1 hK rfl rfl rfl rfl fun a hK => ?_
  refine wpList_nil (nm_then ?_)
  refine wp_seq ?_
  refine wp_seq ?_
  refine wp_region_lit ?_
  refine s1 hK rfl rfl rfl rfl fun a hK => ?_
  refine wpList_nil (nm_then ?_)
  refine wp_block ?_
  refine c_loop (fun n a w => ∃ (x32 : List Pair) (u33 : World) (kv35 : Int) (i36 : Int), K 27 [(0, v2), (1, .int .i64 (kv35)), (5, .int .i64 (i36))] a ∧ St F3 w0 w [(F3, u33)] ∧ ow u33 F3 [v2] x32 ∧ d_laws_markPairS_L1 fu  n x32 kv35 i36 = some r) ?_ ?_ fu _ _ ?_
  · rintro a w ⟨_, _, _, _, _, _, _, h⟩
    cases (show none = some _ from h)
  · rintro m37 a w31 ⟨x32, u33, kv35, i36, hK, hM, hf34, h⟩
    rw [d_laws_markPairS_L1_s] at h
    unfold d_laws_markPairS_L1_B at h
    refine wp_seq ?_
    refine wp_seq ?_
    refine wp_region_lit ?_
    iterate 2 (refine s1 hK rfl rfl rfl rfl fun a hK => ?_)
    refine s_val hK rfl rfl rfl (r_len (α := Pair) (Enc.ow_rd hf34) hK Tryz.underlying36 rfl rfl) fun a hK => ?_
    refine s1 hK rfl rfl rfl rfl fun a hK => ?_
    refine wpList_nil (nm_then ?_)
    refine c_cond (b := decide (i36 < ((x32.length : Int)))) hK rfl (fun hb38 => ?_) (fun hb38 => ?_)
    · have h := bif_t hb38 h
      refine wp_skip (nm_then ?_)
      refine wp_seq ?_
      refine wp_block ?_
      refine wp_seq ?_
      refine wp_region_lit ?_
      iterate 3 (refine s1 hK rfl rfl rfl rfl fun a hK => ?_)
      obtain ⟨x39, hx40, h⟩ := obind_some h
      refine s_val hK rfl rfl rfl (r_ixa (Enc.ow_rd hf34) hx40 hK ts36 rfl rfl rfl) fun a hK => ?_
      refine s_val hK rfl rfl rfl (r_fa fa144_0 hK rfl rfl) fun a hK => ?_
      refine s_ste (α := Pair) (sz := 2) (y := { x39 with fA := kv35 }) Tryz.sizeOf3 hx40 hM 0 hf34 0 hK rfl rfl rfl rfl rfl rfl rfl rfl rfl rfl rfl rfl fun w41 a hK hE hM hf42 => ?_
      refine wpList_nil (nm_then ?_)
      refine wp_seq ?_
      refine wp_region_lit ?_
      iterate 3 (refine s1 hK rfl rfl rfl rfl fun a hK => ?_)
      refine wpList_nil (nm_then ?_)
      refine wp_seq ?_
      refine wp_region_lit ?_
      iterate 3 (refine s1 hK rfl rfl rfl rfl fun a hK => ?_)
      obtain ⟨x43, hx44, h⟩ := obind_some h
      refine s_val hK rfl rfl rfl (r_ixa (Enc.ow_rd hf42) hx44 hK ts36 rfl rfl rfl) fun a hK => ?_
      refine s_val hK rfl rfl rfl (r_fa fa144_1 hK rfl rfl) fun a hK => ?_
      refine s_ste (α := Pair) (sz := 2) (y := { x43 with fB := w64 (kv35 + 1) }) Tryz.sizeOf3 hx44 hM 0 hf42 1 hK rfl rfl rfl rfl rfl rfl rfl rfl rfl rfl rfl rfl fun w45 a hK hE hM hf46 => ?_
      refine wpList_nil (nm_then ?_)
      refine wp_region_lit ?_
      iterate 3 (refine s1 hK rfl rfl rfl rfl fun a hK => ?_)
      refine wpList_nil (nm_block (nm_then ?_))
      refine wp_region_lit ?_
      iterate 3 (refine s1 hK rfl rfl rfl rfl fun a hK => ?_)
      have hK := hK.keep [0, 1, 5] rfl
      refine wpList_nil (nm_then ?_)
      exact ⟨setx (setx x32 i36 ({ x39 with fA := kv35 })) i36 ({ x43 with fB := w64 (kv35 + 1) }), w45, w64 ((w64 (kv35 + 1)) + 1), w64 (i36 + 1), hK.keep [0, 1, 5] rfl, hM.sel [0] rfl (by decide), hf46, h⟩
    · have h := bif_f hb38 h
      refine wp_exit (ex_then (ex_then (ex_same (nm_then ?_))))
      refine wp_seq ?_
      refine wp_region_lit ?_
      iterate 2 (refine s1 hK rfl rfl rfl rfl fun a hK => ?_)
      refine wpList_nil (nm_then ?_)
      refine wp_ret ?_
      have h := Option.some.inj h
      subst h
      exact finR1 hK rfl (RV.tmp hK rfl) ⟨F3, rfl, hM.ext, (fun b hb => hM.lo b (mem_fps (i := 0) rfl hb)), (Enc.ow_agr hf34 (hM.a 0 rfl))⟩
  · exact ⟨a1, w0, kv5, 0, hK.keep [0, 1, 5] rfl, hM.sel [0] rfl (by decide), hp4, h⟩

theorem c_laws_markTypeS (fu : Nat) {w0 : World} (a1 : List Typ) (kv5 : Int) {v2 : Value} {F3 : List Nat} (hp4 : ow w0 F3 [v2] a1) {r : Int × (List Typ)}
    (h : d_laws_markTypeS fu a1 kv5 = some r) :
    Calls Tryz.prog 86 #[v2, .int .i64 (kv5)] w0 fun e w => ∃ (H0 : List Nat), e = .returned (.int .i64 (r.1)) ∧ Ext F3 w0 w ∧ (∀ b ∈ H0, b ∈ F3 ∨ w0.heap.size ≤ b) ∧ ow w H0 [v2] r.2 := by
  refine enter (vs := [_, _]) Tryz.func86 rfl Tryz.ntmps86 rfl fun a hK => ?_
  have hM := St.start1 w0 (Enc.rd_lt (Enc.ow_rd hp4)) (Enc.ow_nd hp4)
  unfold d_laws_markTypeS at h
  refine wp_seq ?_
  refine wp_region_lit ?_
  refine s1 hK rfl rfl rfl rfl fun a hK => ?_
  refine wpList_nil (nm_then ?_)
  refine wp_seq ?_
  refine wp_seq ?_
  refine wp_region_lit ?_
  refine s1 hK rfl rfl rfl rfl fun a hK => ?_
  refine wpList_nil (nm_then ?_)
  refine wp_block ?_
  refine c_loop (fun n a w => ∃ (x72 : List Typ) (u73 : World) (kv75 : Int) (i76 : Int), K 62 [(0, v2), (1, .int .i64 (kv75)), (5, .int .i64 (i76))] a ∧ St F3 w0 w [(F3, u73)] ∧ ow u73 F3 [v2] x72 ∧ d_laws_markTypeS_L1 fu  n x72 kv75 i76 = some r) ?_ ?_ fu _ _ ?_
  · rintro a w ⟨_, _, _, _, _, _, _, h⟩
    cases (show none = some _ from h)
  · rintro m77 a w71 ⟨x72, u73, kv75, i76, hK, hM, hf74, h⟩
    rw [d_laws_markTypeS_L1_s] at h
    unfold d_laws_markTypeS_L1_B at h
    refine wp_seq ?_
    refine wp_seq ?_
    refine wp_region_lit ?_
    iterate 2 (refine s1 hK rfl rfl rfl rfl fun a hK => ?_)
    refine s_val hK rfl rfl rfl (r_len (α := Typ) (Enc.ow_rd hf74) hK Tryz.underlying37 rfl rfl) fun a hK => ?_
    refine s1 hK rfl rfl rfl rfl fun a hK => ?_
    refine wpList_nil (nm_then ?_)
    refine c_cond (b := decide (i76 < ((x72.length : Int)))) hK rfl (fun hb78 => ?_) (fun hb78 => ?_)
    · have h := bif_t hb78 h
      refine wp_skip (nm_then ?_)
      refine wp_seq ?_
      refine wp_block ?_
      refine wp_seq ?_
      refine wp_region_lit ?_
      iterate 3 (refine s1 hK rfl rfl rfl rfl fun a hK => ?_)
      obtain ⟨x79, hx80, h⟩ := obind_some h
      refine s_val hK rfl rfl rfl (r_ixa (Enc.ow_rd hf74) hx80 hK ts37 rfl rfl rfl) fun a hK => ?_
      refine s_val hK rfl rfl rfl (r_fa fa92_0 hK rfl rfl) fun a hK => ?_
      refine s_ste (α := Typ) (sz := 7) (y := { x79 with fId := kv75 }) Tryz.sizeOf3 hx80 hM 0 hf74 0 hK rfl rfl rfl rfl rfl rfl rfl rfl rfl rfl rfl rfl fun w81 a hK hE hM hf82 => ?_
      refine wpList_nil (nm_then ?_)
      refine wp_seq ?_
      refine wp_region_lit ?_
      iterate 3 (refine s1 hK rfl rfl rfl rfl fun a hK => ?_)
      refine wpList_nil (nm_then ?_)
      refine wp_seq ?_
      refine wp_region_lit ?_
      iterate 3 (refine s1 hK rfl rfl rfl rfl fun a hK => ?_)
      obtain ⟨x83, hx84, h⟩ := obind_some h
      refine s_val hK rfl rfl rfl (r_ixa (Enc.ow_rd hf82) hx84 hK ts37 rfl rfl rfl) fun a hK => ?_
      refine s_val hK rfl rfl rfl (r_fa fa92_1 hK rfl rfl) fun a hK => ?_
      refine s_ste (α := Typ) (sz := 7) (y := { x83 with fW := w64 (kv75 + 1) }) Tryz.sizeOf3 hx84 hM 0 hf82 1 hK rfl rfl rfl rfl rfl rfl rfl rfl rfl rfl rfl rfl fun w85 a hK hE hM hf86 => ?_
      refine wpList_nil (nm_then ?_)
      refine wp_seq ?_
      refine wp_region_lit ?_
      iterate 3 (refine s1 hK rfl rfl rfl rfl fun a hK => ?_)
      refine wpList_nil (nm_then ?_)
      refine wp_seq ?_
      refine wp_region_lit ?_
      iterate 3 (refine s1 hK rfl rfl rfl rfl fun a hK => ?_)
      obtain ⟨x87, hx88, h⟩ := obind_some h
      refine s_val hK rfl rfl rfl (r_ixa (Enc.ow_rd hf86) hx88 hK ts37 rfl rfl rfl) fun a hK => ?_
      refine s_val hK rfl rfl rfl (r_fa fa92_2 hK rfl rfl) fun a hK => ?_
      refine s_ste (α := Typ) (sz := 7) (y := { x87 with fH := w64 ((w64 (kv75 + 1)) + 1) }) Tryz.sizeOf3 hx88 hM 0 hf86 2 hK rfl rfl rfl rfl rfl rfl rfl rfl rfl rfl rfl rfl fun w89 a hK hE hM hf90 => ?_
      have hK := hK.keep [0, 1, 5] rfl
      refine wpList_nil (nm_then ?_)
      refine wp_seq ?_
      refine wp_region_lit ?_
      iterate 3 (refine s1 hK rfl rfl rfl rfl fun a hK => ?_)
      refine wpList_nil (nm_then ?_)
      refine wp_seq ?_
      refine wp_region_lit ?_
      iterate 3 (refine s1 hK rfl rfl rfl rfl fun a hK => ?_)
      obtain ⟨x91, hx92, h⟩ := obind_some h
      refine s_val hK rfl rfl rfl (r_ixa (Enc.ow_rd hf90) hx92 hK ts37 rfl rfl rfl) fun a hK => ?_
      refine s_val hK rfl rfl rfl (r_fa fa92_3 hK rfl rfl) fun a hK => ?_
      refine s_ste (α := Typ) (sz := 7) (y := { x91 with fD := w64 ((w64 ((w64 (kv75 + 1)) + 1)) + 1) }) Tryz.sizeOf3 hx92 hM 0 hf90 3 hK rfl rfl rfl rfl rfl rfl rfl rfl rfl rfl rfl rfl fun w93 a hK hE hM hf94 => ?_
      refine wpList_nil (nm_then ?_)
      refine wp_seq ?_
      refine wp_region_lit ?_
      iterate 3 (refine s1 hK rfl rfl rfl rfl fun a hK => ?_)
      refine wpList_nil (nm_then ?_)
      refine wp_seq ?_
      refine wp_region_lit ?_
      iterate 3 (refine s1 hK rfl rfl rfl rfl fun a hK => ?_)
      obtain ⟨x95, hx96, h⟩ := obind_some h
      refine s_val hK rfl rfl rfl (r_ixa (Enc.ow_rd hf94) hx96 hK ts37 rfl rfl rfl) fun a hK => ?_
      refine s_val hK rfl rfl rfl (r_fa fa92_4 hK rfl rfl) fun a hK => ?_
      refine s_ste (α := Typ) (sz := 7) (y := { x95 with fTare := w64 ((w64 ((w64 ((w64 (kv75 + 1)) + 1)) + 1)) + 1) }) Tryz.sizeOf3 hx96 hM 0 hf94 4 hK rfl rfl rfl rfl rfl rfl rfl rfl rfl rfl rfl rfl fun w97 a hK hE hM hf98 => ?_
      refine wpList_nil (nm_then ?_)
      refine wp_seq ?_
      refine wp_region_lit ?_
      iterate 3 (refine s1 hK rfl rfl rfl rfl fun a hK => ?_)
      refine wpList_nil (nm_then ?_)
      refine wp_seq ?_
      refine wp_region_lit ?_
      iterate 3 (refine s1 hK rfl rfl rfl rfl fun a hK => ?_)
      obtain ⟨x99, hx100, h⟩ := obind_some h
      refine s_val hK rfl rfl rfl (r_ixa (Enc.ow_rd hf98) hx100 hK ts37 rfl rfl rfl) fun a hK => ?_
      refine s_val hK rfl rfl rfl (r_fa fa92_5 hK rfl rfl) fun a hK => ?_
      refine s_ste (α := Typ) (sz := 7) (y := { x99 with fGram := w64 ((w64 ((w64 ((w64 ((w64 (kv75 + 1)) + 1)) + 1)) + 1)) + 1) }) Tryz.sizeOf3 hx100 hM 0 hf98 5 hK rfl rfl rfl rfl rfl rfl rfl rfl rfl rfl rfl rfl fun w101 a hK hE hM hf102 => ?_
      have hK := hK.keep [0, 1, 5] rfl
      refine wpList_nil (nm_then ?_)
      refine wp_seq ?_
      refine wp_region_lit ?_
      iterate 3 (refine s1 hK rfl rfl rfl rfl fun a hK => ?_)
      refine wpList_nil (nm_then ?_)
      refine wp_seq ?_
      refine wp_region_lit ?_
      iterate 3 (refine s1 hK rfl rfl rfl rfl fun a hK => ?_)
      obtain ⟨x103, hx104, h⟩ := obind_some h
      refine s_val hK rfl rfl rfl (r_ixa (Enc.ow_rd hf102) hx104 hK ts37 rfl rfl rfl) fun a hK => ?_
      refine s_val hK rfl rfl rfl (r_fa fa92_6 hK rfl rfl) fun a hK => ?_
      refine s_ste (α := Typ) (sz := 7) (y := { x103 with fCost := w64 ((w64 ((w64 ((w64 ((w64 ((w64 (kv75 + 1)) + 1)) + 1)) + 1)) + 1)) + 1) }) Tryz.sizeOf3 hx104 hM 0 hf102 6 hK rfl rfl rfl rfl rfl rfl rfl rfl rfl rfl rfl rfl fun w105 a hK hE hM hf106 => ?_
      refine wpList_nil (nm_then ?_)
      refine wp_region_lit ?_
      iterate 3 (refine s1 hK rfl rfl rfl rfl fun a hK => ?_)
      refine wpList_nil (nm_block (nm_then ?_))
      refine wp_region_lit ?_
      iterate 3 (refine s1 hK rfl rfl rfl rfl fun a hK => ?_)
      refine wpList_nil (nm_then ?_)
      exact ⟨setx (setx (setx (setx (setx (setx (setx x72 i76 ({ x79 with fId := kv75 })) i76 ({ x83 with fW := w64 (kv75 + 1) })) i76 ({ x87 with fH := w64 ((w64 (kv75 + 1)) + 1) })) i76 ({ x91 with fD := w64 ((w64 ((w64 (kv75 + 1)) + 1)) + 1) })) i76 ({ x95 with fTare := w64 ((w64 ((w64 ((w64 (kv75 + 1)) + 1)) + 1)) + 1) })) i76 ({ x99 with fGram := w64 ((w64 ((w64 ((w64 ((w64 (kv75 + 1)) + 1)) + 1)) + 1)) + 1) })) i76 ({ x103 with fCost := w64 ((w64 ((w64 ((w64 ((w64 ((w64 (kv75 + 1)) + 1)) + 1)) + 1)) + 1)) + 1) }), w105, w64 ((w64 ((w64 ((w64 ((w64 ((w64 ((w64 (kv75 + 1)) + 1)) + 1)) + 1)) + 1)) + 1)) + 1), w64 (i76 + 1), hK.keep [0, 1, 5] rfl, hM.sel [0] rfl (by decide), hf106, h⟩
    · have h := bif_f hb78 h
      refine wp_exit (ex_then (ex_then (ex_same (nm_then ?_))))
      refine wp_seq ?_
      refine wp_region_lit ?_
      iterate 2 (refine s1 hK rfl rfl rfl rfl fun a hK => ?_)
      refine wpList_nil (nm_then ?_)
      refine wp_ret ?_
      have h := Option.some.inj h
      subst h
      exact finR1 hK rfl (RV.tmp hK rfl) ⟨F3, rfl, hM.ext, (fun b hb => hM.lo b (mem_fps (i := 0) rfl hb)), (Enc.ow_agr hf74 (hM.a 0 rfl))⟩
  · exact ⟨a1, w0, kv5, 0, hK.keep [0, 1, 5] rfl, hM.sel [0] rfl (by decide), hp4, h⟩

theorem c_laws_markItemS (fu : Nat) {w0 : World} (a1 : List Item) (kv5 : Int) {v2 : Value} {F3 : List Nat} (hp4 : ow w0 F3 [v2] a1) {r : Int × (List Item)}
    (h : d_laws_markItemS fu a1 kv5 = some r) :
    Calls Tryz.prog 87 #[v2, .int .i64 (kv5)] w0 fun e w => ∃ (H0 : List Nat), e = .returned (.int .i64 (r.1)) ∧ Ext F3 w0 w ∧ (∀ b ∈ H0, b ∈ F3 ∨ w0.heap.size ≤ b) ∧ ow w H0 [v2] r.2 := by
  refine enter (vs := [_, _]) Tryz.func87 rfl Tryz.ntmps87 rfl fun a hK => ?_
  have hM := St.start1 w0 (Enc.rd_lt (Enc.ow_rd hp4)) (Enc.ow_nd hp4)
  unfold d_laws_markItemS at h
  refine wp_seq ?_
  refine wp_region_lit ?_
  refine s1 hK rfl rfl rfl rfl fun a hK => ?_
  refine wpList_nil (nm_then ?_)
  refine wp_seq ?_
  refine wp_seq ?_
  refine wp_region_lit ?_
  refine s1 hK rfl rfl rfl rfl fun a hK => ?_
  refine wpList_nil (nm_then ?_)
  refine wp_block ?_
  refine c_loop (fun n a w => ∃ (x72 : List Item) (u73 : World) (kv75 : Int) (i76 : Int), K 62 [(0, v2), (1, .int .i64 (kv75)), (5, .int .i64 (i76))] a ∧ St F3 w0 w [(F3, u73)] ∧ ow u73 F3 [v2] x72 ∧ d_laws_markItemS_L1 fu  n x72 kv75 i76 = some r) ?_ ?_ fu _ _ ?_
  · rintro a w ⟨_, _, _, _, _, _, _, h⟩
    cases (show none = some _ from h)
  · rintro m77 a w71 ⟨x72, u73, kv75, i76, hK, hM, hf74, h⟩
    rw [d_laws_markItemS_L1_s] at h
    unfold d_laws_markItemS_L1_B at h
    refine wp_seq ?_
    refine wp_seq ?_
    refine wp_region_lit ?_
    iterate 2 (refine s1 hK rfl rfl rfl rfl fun a hK => ?_)
    refine s_val hK rfl rfl rfl (r_len (α := Item) (Enc.ow_rd hf74) hK Tryz.underlying38 rfl rfl) fun a hK => ?_
    refine s1 hK rfl rfl rfl rfl fun a hK => ?_
    refine wpList_nil (nm_then ?_)
    refine c_cond (b := decide (i76 < ((x72.length : Int)))) hK rfl (fun hb78 => ?_) (fun hb78 => ?_)
    · have h := bif_t hb78 h
      refine wp_skip (nm_then ?_)
      refine wp_seq ?_
      refine wp_block ?_
      refine wp_seq ?_
      refine wp_region_lit ?_
      iterate 3 (refine s1 hK rfl rfl rfl rfl fun a hK => ?_)
      obtain ⟨x79, hx80, h⟩ := obind_some h
      refine s_val hK rfl rfl rfl (r_ixa (Enc.ow_rd hf74) hx80 hK ts38 rfl rfl rfl) fun a hK => ?_
      refine s_val hK rfl rfl rfl (r_fa fa120_0 hK rfl rfl) fun a hK => ?_
      refine s_ste (α := Item) (sz := 7) (y := { x79 with fId := kv75 }) Tryz.sizeOf3 hx80 hM 0 hf74 0 hK rfl rfl rfl rfl rfl rfl rfl rfl rfl rfl rfl rfl fun w81 a hK hE hM hf82 => ?_
      refine wpList_nil (nm_then ?_)
      refine wp_seq ?_
      refine wp_region_lit ?_
      iterate 3 (refine s1 hK rfl rfl rfl rfl fun a hK => ?_)
      refine wpList_nil (nm_then ?_)
      refine wp_seq ?_
      refine wp_region_lit ?_
      iterate 3 (refine s1 hK rfl rfl rfl rfl fun a hK => ?_)
      obtain ⟨x83, hx84, h⟩ := obind_some h
      refine s_val hK rfl rfl rfl (r_ixa (Enc.ow_rd hf82) hx84 hK ts38 rfl rfl rfl) fun a hK => ?_
      refine s_val hK rfl rfl rfl (r_fa fa120_1 hK rfl rfl) fun a hK => ?_
      refine s_ste (α := Item) (sz := 7) (y := { x83 with fW := w64 (kv75 + 1) }) Tryz.sizeOf3 hx84 hM 0 hf82 1 hK rfl rfl rfl rfl rfl rfl rfl rfl rfl rfl rfl rfl fun w85 a hK hE hM hf86 => ?_
      refine wpList_nil (nm_then ?_)
      refine wp_seq ?_
      refine wp_region_lit ?_
      iterate 3 (refine s1 hK rfl rfl rfl rfl fun a hK => ?_)
      refine wpList_nil (nm_then ?_)
      refine wp_seq ?_
      refine wp_region_lit ?_
      iterate 3 (refine s1 hK rfl rfl rfl rfl fun a hK => ?_)
      obtain ⟨x87, hx88, h⟩ := obind_some h
      refine s_val hK rfl rfl rfl (r_ixa (Enc.ow_rd hf86) hx88 hK ts38 rfl rfl rfl) fun a hK => ?_
      refine s_val hK rfl rfl rfl (r_fa fa120_2 hK rfl rfl) fun a hK => ?_
      refine s_ste (α := Item) (sz := 7) (y := { x87 with fH := w64 ((w64 (kv75 + 1)) + 1) }) Tryz.sizeOf3 hx88 hM 0 hf86 2 hK rfl rfl rfl rfl rfl rfl rfl rfl rfl rfl rfl rfl fun w89 a hK hE hM hf90 => ?_
      have hK := hK.keep [0, 1, 5] rfl
      refine wpList_nil (nm_then ?_)
      refine wp_seq ?_
      refine wp_region_lit ?_
      iterate 3 (refine s1 hK rfl rfl rfl rfl fun a hK => ?_)
      refine wpList_nil (nm_then ?_)
      refine wp_seq ?_
      refine wp_region_lit ?_
      iterate 3 (refine s1 hK rfl rfl rfl rfl fun a hK => ?_)
      obtain ⟨x91, hx92, h⟩ := obind_some h
      refine s_val hK rfl rfl rfl (r_ixa (Enc.ow_rd hf90) hx92 hK ts38 rfl rfl rfl) fun a hK => ?_
      refine s_val hK rfl rfl rfl (r_fa fa120_3 hK rfl rfl) fun a hK => ?_
      refine s_ste (α := Item) (sz := 7) (y := { x91 with fD := w64 ((w64 ((w64 (kv75 + 1)) + 1)) + 1) }) Tryz.sizeOf3 hx92 hM 0 hf90 3 hK rfl rfl rfl rfl rfl rfl rfl rfl rfl rfl rfl rfl fun w93 a hK hE hM hf94 => ?_
      refine wpList_nil (nm_then ?_)
      refine wp_seq ?_
      refine wp_region_lit ?_
      iterate 3 (refine s1 hK rfl rfl rfl rfl fun a hK => ?_)
      refine wpList_nil (nm_then ?_)
      refine wp_seq ?_
      refine wp_region_lit ?_
      iterate 3 (refine s1 hK rfl rfl rfl rfl fun a hK => ?_)
      obtain ⟨x95, hx96, h⟩ := obind_some h
      refine s_val hK rfl rfl rfl (r_ixa (Enc.ow_rd hf94) hx96 hK ts38 rfl rfl rfl) fun a hK => ?_
      refine s_val hK rfl rfl rfl (r_fa fa120_4 hK rfl rfl) fun a hK => ?_
      refine s_ste (α := Item) (sz := 7) (y := { x95 with fGram := w64 ((w64 ((w64 ((w64 (kv75 + 1)) + 1)) + 1)) + 1) }) Tryz.sizeOf3 hx96 hM 0 hf94 4 hK rfl rfl rfl rfl rfl rfl rfl rfl rfl rfl rfl rfl fun w97 a hK hE hM hf98 => ?_
      refine wpList_nil (nm_then ?_)
      refine wp_seq ?_
      refine wp_region_lit ?_
      iterate 3 (refine s1 hK rfl rfl rfl rfl fun a hK => ?_)
      refine wpList_nil (nm_then ?_)
      refine wp_seq ?_
      refine wp_region_lit ?_
      iterate 3 (refine s1 hK rfl rfl rfl rfl fun a hK => ?_)
      obtain ⟨x99, hx100, h⟩ := obind_some h
      refine s_val hK rfl rfl rfl (r_ixa (Enc.ow_rd hf98) hx100 hK ts38 rfl rfl rfl) fun a hK => ?_
      refine s_val hK rfl rfl rfl (r_fa fa120_5 hK rfl rfl) fun a hK => ?_
      refine s_ste (α := Item) (sz := 7) (y := { x99 with fClass := w64 ((w64 ((w64 ((w64 ((w64 (kv75 + 1)) + 1)) + 1)) + 1)) + 1) }) Tryz.sizeOf3 hx100 hM 0 hf98 5 hK rfl rfl rfl rfl rfl rfl rfl rfl rfl rfl rfl rfl fun w101 a hK hE hM hf102 => ?_
      have hK := hK.keep [0, 1, 5] rfl
      refine wpList_nil (nm_then ?_)
      refine wp_seq ?_
      refine wp_region_lit ?_
      iterate 3 (refine s1 hK rfl rfl rfl rfl fun a hK => ?_)
      refine wpList_nil (nm_then ?_)
      refine wp_seq ?_
      refine wp_region_lit ?_
      iterate 3 (refine s1 hK rfl rfl rfl rfl fun a hK => ?_)
      obtain ⟨x103, hx104, h⟩ := obind_some h
      refine s_val hK rfl rfl rfl (r_ixa (Enc.ow_rd hf102) hx104 hK ts38 rfl rfl rfl) fun a hK => ?_
      refine s_val hK rfl rfl rfl (r_fa fa120_6 hK rfl rfl) fun a hK => ?_
      refine s_ste (α := Item) (sz := 7) (y := { x103 with fCount := w64 ((w64 ((w64 ((w64 ((w64 ((w64 (kv75 + 1)) + 1)) + 1)) + 1)) + 1)) + 1) }) Tryz.sizeOf3 hx104 hM 0 hf102 6 hK rfl rfl rfl rfl rfl rfl rfl rfl rfl rfl rfl rfl fun w105 a hK hE hM hf106 => ?_
      refine wpList_nil (nm_then ?_)
      refine wp_region_lit ?_
      iterate 3 (refine s1 hK rfl rfl rfl rfl fun a hK => ?_)
      refine wpList_nil (nm_block (nm_then ?_))
      refine wp_region_lit ?_
      iterate 3 (refine s1 hK rfl rfl rfl rfl fun a hK => ?_)
      refine wpList_nil (nm_then ?_)
      exact ⟨setx (setx (setx (setx (setx (setx (setx x72 i76 ({ x79 with fId := kv75 })) i76 ({ x83 with fW := w64 (kv75 + 1) })) i76 ({ x87 with fH := w64 ((w64 (kv75 + 1)) + 1) })) i76 ({ x91 with fD := w64 ((w64 ((w64 (kv75 + 1)) + 1)) + 1) })) i76 ({ x95 with fGram := w64 ((w64 ((w64 ((w64 (kv75 + 1)) + 1)) + 1)) + 1) })) i76 ({ x99 with fClass := w64 ((w64 ((w64 ((w64 ((w64 (kv75 + 1)) + 1)) + 1)) + 1)) + 1) })) i76 ({ x103 with fCount := w64 ((w64 ((w64 ((w64 ((w64 ((w64 (kv75 + 1)) + 1)) + 1)) + 1)) + 1)) + 1) }), w105, w64 ((w64 ((w64 ((w64 ((w64 ((w64 ((w64 (kv75 + 1)) + 1)) + 1)) + 1)) + 1)) + 1)) + 1), w64 (i76 + 1), hK.keep [0, 1, 5] rfl, hM.sel [0] rfl (by decide), hf106, h⟩
    · have h := bif_f hb78 h
      refine wp_exit (ex_then (ex_then (ex_same (nm_then ?_))))
      refine wp_seq ?_
      refine wp_region_lit ?_
      iterate 2 (refine s1 hK rfl rfl rfl rfl fun a hK => ?_)
      refine wpList_nil (nm_then ?_)
      refine wp_ret ?_
      have h := Option.some.inj h
      subst h
      exact finR1 hK rfl (RV.tmp hK rfl) ⟨F3, rfl, hM.ext, (fun b hb => hM.lo b (mem_fps (i := 0) rfl hb)), (Enc.ow_agr hf74 (hM.a 0 rfl))⟩
  · exact ⟨a1, w0, kv5, 0, hK.keep [0, 1, 5] rfl, hM.sel [0] rfl (by decide), hp4, h⟩

theorem c_laws_markRequest (fu : Nat) {w0 : World} (a1 : Request) (kv5 : Int) {cs2 : List Value} {F3 : List Nat} (hp4 : ow w0 F3 cs2 a1) {r : Int × Request}
    (h : d_laws_markRequest fu a1 kv5 = some r) :
    Calls Tryz.prog 26 #[.agg cs2.toArray, .int .i64 (kv5)] w0 fun e w => ∃ (H0 : List Nat), e = .returned (.int .i64 (r.1)) ∧ Ext F3 w0 w ∧ (∀ b ∈ H0, b ∈ F3 ∨ w0.heap.size ≤ b) ∧ ow w H0 cs2 r.2 := by
  refine enter (vs := [_, _]) Tryz.func26 rfl Tryz.ntmps26 rfl fun a hK => ?_
  have hM := St.start1 w0 (Enc.rd_lt (Enc.ow_rd hp4)) (Enc.ow_nd hp4)
  obtain ⟨v6, F7, v9, F10, v12, F13, rfl, rfl, hf8, hf11, hf14, _⟩ := hp4
  have hM := hM.split2
  have hM := hM.split2at1
  unfold d_laws_markRequest at h
  refine wp_seq ?_
  refine wp_region_lit ?_
  refine s_box (cs := [.int .i64 (a1.fWay), .int .i64 (a1.fPallet.fW), .int .i64 (a1.fPallet.fD), .int .i64 (a1.fPallet.fH), .int .i64 (a1.fPallet.fGram), .int .i64 (a1.fClasses), v6, v9, .int .i64 (a1.fMaster), v12]) hM hK rfl rfl rfl rfl rfl rfl fun b15 w17 a hK hM hE hb16 => ?_
  refine s1 hK rfl rfl rfl rfl fun a hK => ?_
  refine wpList_nil (nm_then ?_)
  refine wp_seq ?_
  refine wp_region_lit ?_
  refine s_val hK rfl rfl rfl (r_fa fa40_3 hK rfl rfl) fun a hK => ?_
  refine s_val hK rfl rfl rfl (r_ldb t136 hM 0 hb16 6 hK rfl rfl rfl rfl rfl) fun a hK => ?_
  refine s1 hK rfl rfl rfl rfl fun a hK => ?_
  obtain ⟨x18, hx19, h⟩ := obind_some h
  refine s_call hK Tryz.call85 rfl rfl rfl rfl rfl (c_laws_markPairS fu _ _ (Enc.ow_agr hf8 (hM.a 1 rfl)) hx19) fun e20 w21 hR => ?_
  obtain ⟨F24, rfl, hE, hlo23, hf22⟩ := hR
  refine ⟨_, rfl, fun a hK => ?_⟩
  have hM := hM.mut 1 rfl hE _ (fun b hb => ⟨hlo23 b hb, Enc.rd_lt (Enc.ow_rd hf22) b hb⟩) (Enc.ow_nd hf22)
  refine s1 hK rfl rfl rfl rfl fun a hK => ?_
  refine wpList_nil (nm_then ?_)
  refine wp_seq ?_
  refine wp_region_lit ?_
  refine s_val hK rfl rfl rfl (r_fa fa40_4 hK rfl rfl) fun a hK => ?_
  refine s_val hK rfl rfl rfl (r_ldb t137 hM 0 hb16 7 hK rfl rfl rfl rfl rfl) fun a hK => ?_
  refine s1 hK rfl rfl rfl rfl fun a hK => ?_
  obtain ⟨x25, hx26, h⟩ := obind_some h
  refine s_call hK Tryz.call86 rfl rfl rfl rfl rfl (c_laws_markTypeS fu _ _ (Enc.ow_agr hf11 (hM.a 2 rfl)) hx26) fun e27 w28 hR => ?_
  obtain ⟨F31, rfl, hE, hlo30, hf29⟩ := hR
  refine ⟨_, rfl, fun a hK => ?_⟩
  have hM := hM.mut 2 rfl hE _ (fun b hb => ⟨hlo30 b hb, Enc.rd_lt (Enc.ow_rd hf29) b hb⟩) (Enc.ow_nd hf29)
  refine s1 hK rfl rfl rfl rfl fun a hK => ?_
  refine wpList_nil (nm_then ?_)
  refine wp_seq ?_
  refine wp_region_lit ?_
  refine s_val hK rfl rfl rfl (r_fa fa40_6 hK rfl rfl) fun a hK => ?_
  refine s_val hK rfl rfl rfl (r_ldb t138 hM 0 hb16 9 hK rfl rfl rfl rfl rfl) fun a hK => ?_
  refine s1 hK rfl rfl rfl rfl fun a hK => ?_
  obtain ⟨x32, hx33, h⟩ := obind_some h
  refine s_call hK Tryz.call87 rfl rfl rfl rfl rfl (c_laws_markItemS fu _ _ (Enc.ow_agr hf14 (hM.a 3 rfl)) hx33) fun e34 w35 hR => ?_
  obtain ⟨F38, rfl, hE, hlo37, hf36⟩ := hR
  refine ⟨_, rfl, fun a hK => ?_⟩
  have hM := hM.mut 3 rfl hE _ (fun b hb => ⟨hlo37 b hb, Enc.rd_lt (Enc.ow_rd hf36) b hb⟩) (Enc.ow_nd hf36)
  refine s1 hK rfl rfl rfl rfl fun a hK => ?_
  refine wpList_nil (nm_then ?_)
  refine wp_seq ?_
  refine wp_region_lit ?_
  iterate 2 (refine s1 hK rfl rfl rfl rfl fun a hK => ?_)
  refine wpList_nil (nm_then ?_)
  refine wp_ret ?_
  have h := Option.some.inj h
  subst h
  exact finR1 hK rfl (RV.tmp hK rfl) ⟨F24 ++ (F31 ++ (F38)), rfl, hM.ext, (fun b hb => (hM.sel [1, 2, 3] rfl (by decide)).lo b (by simpa [fps] using hb)), ⟨_, _, _, _, _, _, rfl, rfl, (Enc.ow_agr hf22 (hM.a 1 rfl)), (Enc.ow_agr hf29 (hM.a 2 rfl)), (Enc.ow_agr hf36 (hM.a 3 rfl)), by simpa [fps] using (hM.sel [1, 2, 3] rfl (by decide)).nd⟩⟩

theorem c_laws_markIntS (fu : Nat) {w0 : World} (a1 : List Int) (kv5 : Int) {v2 : Value} {F3 : List Nat} (hp4 : ow w0 F3 [v2] a1) {r : Int × (List Int)}
    (h : d_laws_markIntS fu a1 kv5 = some r) :
    Calls Tryz.prog 46 #[v2, .int .i64 (kv5)] w0 fun e w => ∃ (H0 : List Nat), e = .returned (.int .i64 (r.1)) ∧ Ext F3 w0 w ∧ (∀ b ∈ H0, b ∈ F3 ∨ w0.heap.size ≤ b) ∧ ow w H0 [v2] r.2 := by
  refine enter (vs := [_, _]) Tryz.func46 rfl Tryz.ntmps46 rfl fun a hK => ?_
  have hM := St.start1 w0 (Enc.rd_lt (Enc.ow_rd hp4)) (Enc.ow_nd hp4)
  unfold d_laws_markIntS at h
  refine wp_seq ?_
  refine wp_region_lit ?_
  refine s1 hK rfl rfl rfl rfl fun a hK => ?_
  refine wpList_nil (nm_then ?_)
  refine wp_seq ?_
  refine wp_seq ?_
  refine wp_region_lit ?_
  refine s1 hK rfl rfl rfl rfl fun a hK => ?_
  refine wpList_nil (nm_then ?_)
  refine wp_block ?_
  refine c_loop (fun n a w => ∃ (x24 : List Int) (u25 : World) (kv27 : Int) (i28 : Int), K 19 [(0, v2), (1, .int .i64 (kv27)), (5, .int .i64 (i28))] a ∧ St F3 w0 w [(F3, u25)] ∧ ow u25 F3 [v2] x24 ∧ d_laws_markIntS_L1 fu  n x24 kv27 i28 = some r) ?_ ?_ fu _ _ ?_
  · rintro a w ⟨_, _, _, _, _, _, _, h⟩
    cases (show none = some _ from h)
  · rintro m29 a w23 ⟨x24, u25, kv27, i28, hK, hM, hf26, h⟩
    rw [d_laws_markIntS_L1_s] at h
    unfold d_laws_markIntS_L1_B at h
    refine wp_seq ?_
    refine wp_seq ?_
    refine wp_region_lit ?_
    iterate 2 (refine s1 hK rfl rfl rfl rfl fun a hK => ?_)
    refine s_val hK rfl rfl rfl (r_len (α := Int) (Enc.ow_rd hf26) hK Tryz.underlying29 rfl rfl) fun a hK => ?_
    refine s1 hK rfl rfl rfl rfl fun a hK => ?_
    refine wpList_nil (nm_then ?_)
    refine c_cond (b := decide (i28 < ((x24.length : Int)))) hK rfl (fun hb30 => ?_) (fun hb30 => ?_)
    · have h := bif_t hb30 h
      refine wp_skip (nm_then ?_)
      refine wp_seq ?_
      refine wp_block ?_
      refine wp_seq ?_
      refine wp_region_lit ?_
      iterate 3 (refine s1 hK rfl rfl rfl rfl fun a hK => ?_)
      obtain ⟨x31, hx32, h⟩ := obind_some h
      refine s_val hK rfl rfl rfl (r_ixa (Enc.ow_rd hf26) hx32 hK ts29 rfl rfl rfl) fun a hK => ?_
      refine s_ste (α := Int) (sz := 1) (y := kv27) Tryz.sizeOf3 hx32 hM 0 hf26 0 hK rfl rfl rfl rfl rfl rfl rfl rfl rfl rfl rfl rfl fun w33 a hK hE hM hf34 => ?_
      refine wpList_nil (nm_then ?_)
      refine wp_region_lit ?_
      iterate 3 (refine s1 hK rfl rfl rfl rfl fun a hK => ?_)
      refine wpList_nil (nm_block (nm_then ?_))
      refine wp_region_lit ?_
      iterate 3 (refine s1 hK rfl rfl rfl rfl fun a hK => ?_)
      refine wpList_nil (nm_then ?_)
      exact ⟨setx x24 i28 kv27, w33, w64 (kv27 + 1), w64 (i28 + 1), hK.keep [0, 1, 5] rfl, hM.sel [0] rfl (by decide), hf34, h⟩
    · have h := bif_f hb30 h
      refine wp_exit (ex_then (ex_then (ex_same (nm_then ?_))))
      refine wp_seq ?_
      refine wp_region_lit ?_
      iterate 2 (refine s1 hK rfl rfl rfl rfl fun a hK => ?_)
      refine wpList_nil (nm_then ?_)
      refine wp_ret ?_
      have h := Option.some.inj h
      subst h
      exact finR1 hK rfl (RV.tmp hK rfl) ⟨F3, rfl, hM.ext, (fun b hb => hM.lo b (mem_fps (i := 0) rfl hb)), (Enc.ow_agr hf26 (hM.a 0 rfl))⟩
  · exact ⟨a1, w0, kv5, 0, hK.keep [0, 1, 5] rfl, hM.sel [0] rfl (by decide), hp4, h⟩

theorem c_laws_markIntSS (fu : Nat) {w0 : World} (a1 : List (List Int)) (kv5 : Int) {v2 : Value} {F3 : List Nat} (hp4 : ow w0 F3 [v2] a1) {r : Int × (List (List Int))}
    (h : d_laws_markIntSS fu a1 kv5 = some r) :
    Calls Tryz.prog 27 #[v2, .int .i64 (kv5)] w0 fun e w => ∃ (H0 : List Nat), e = .returned (.int .i64 (r.1)) ∧ Ext F3 w0 w ∧ (∀ b ∈ H0, b ∈ F3 ∨ w0.heap.size ≤ b) ∧ ow w H0 [v2] r.2 := by
  refine enter (vs := [_, _]) Tryz.func27 rfl Tryz.ntmps27 rfl fun a hK => ?_
  have hM := St.start1 w0 (Enc.rd_lt (Enc.ow_rd hp4)) (Enc.ow_nd hp4)
  unfold d_laws_markIntSS at h
  refine wp_seq ?_
  refine wp_region_lit ?_
  refine s1 hK rfl rfl rfl rfl fun a hK => ?_
  refine wpList_nil (nm_then ?_)
  refine wp_seq ?_
  refine wp_seq ?_
  refine wp_region_lit ?_
  refine s1 hK rfl rfl rfl rfl fun a hK => ?_
  refine wpList_nil (nm_then ?_)
  refine wp_block ?_
  refine c_loop (fun n a w => ∃ (x61 : List (List Int)) (u62 : World) (F64 : List Nat) (kv65 : Int) (i66 : Int), K 19 [(0, v2), (1, .int .i64 (kv65)), (5, .int .i64 (i66))] a ∧ St F3 w0 w [(F64, u62)] ∧ ow u62 F64 [v2] x61 ∧ d_laws_markIntSS_L1 fu  n x61 kv65 i66 = some r) ?_ ?_ fu _ _ ?_
  · rintro a w ⟨_, _, _, _, _, _, _, _, h⟩
    cases (show none = some _ from h)
  · rintro m67 a w60 ⟨x61, u62, F64, kv65, i66, hK, hM, hf63, h⟩
    rw [d_laws_markIntSS_L1_s] at h
    unfold d_laws_markIntSS_L1_B at h
    refine wp_seq ?_
    refine wp_seq ?_
    refine wp_region_lit ?_
    iterate 2 (refine s1 hK rfl rfl rfl rfl fun a hK => ?_)
    refine s_val hK rfl rfl rfl (r_len (α := List Int) (Enc.ow_rd hf63) hK Tryz.underlying47 rfl rfl) fun a hK => ?_
    refine s1 hK rfl rfl rfl rfl fun a hK => ?_
    refine wpList_nil (nm_then ?_)
    refine c_cond (b := decide (i66 < ((x61.length : Int)))) hK rfl (fun hb68 => ?_) (fun hb68 => ?_)
    · have h := bif_t hb68 h
      refine wp_skip (nm_then ?_)
      refine wp_seq ?_
      refine wp_block ?_
      refine wp_region_lit ?_
      iterate 2 (refine s1 hK rfl rfl rfl rfl fun a hK => ?_)
      obtain ⟨x69, hx70, h⟩ := obind_some h
      refine s_val hK rfl rfl rfl (r_ixa (Enc.ow_rd hf63) hx70 hK ts47 rfl rfl rfl) fun a hK => ?_
      obtain ⟨G71, cs72, hG73, hr74, hp75, hb76⟩ := rd_get (Enc.ow_rd hf63) (ix_some hx70).2.2
      obtain ⟨v77, rfl⟩ : ∃ v, cs72 = [v] := by obtain ⟨_, _, hq, _⟩ := hr74; exact ⟨_, hq⟩
      refine s_val hK rfl rfl rfl (r_ld1 t129 (hp75.agr (hM.a 0 rfl) hb76) hK rfl rfl) fun a hK => ?_
      refine s1 hK rfl rfl rfl rfl fun a hK => ?_
      obtain ⟨A78, B79, hM, hH80, hO81⟩ := hM.opn 0 rfl hf63 hx70 hp75 rfl (M' := []) rfl
      obtain ⟨x82, hx83, h⟩ := obind_some h
      refine s_call hK Tryz.call46 rfl rfl rfl rfl rfl (c_laws_markIntS fu _ _ (Enc.ow_agr hO81 (hM.a 1 rfl)) hx83) fun e84 w85 hR => ?_
      obtain ⟨F88, rfl, hE, hlo87, hf86⟩ := hR
      refine ⟨_, rfl, fun a hK => ?_⟩
      have hM := hM.mut 1 rfl hE _ (fun b hb => ⟨hlo87 b hb, Enc.rd_lt (Enc.ow_rd hf86) b hb⟩) (Enc.ow_nd hf86)
      obtain ⟨F89, hM, hf90⟩ := (hM.sel [0, 1] rfl (by decide)).cls hH80 hf86
      refine s1 hK rfl rfl rfl rfl fun a hK => ?_
      refine wpList_nil (nm_block (nm_then ?_))
      refine wp_region_lit ?_
      iterate 3 (refine s1 hK rfl rfl rfl rfl fun a hK => ?_)
      refine wpList_nil (nm_then ?_)
      exact ⟨setx x61 i66 x82.2, w85, F89, x82.1, w64 (i66 + 1), hK.keep [0, 1, 5] rfl, hM.sel [0] rfl (by decide), hf90, h⟩
    · have h := bif_f hb68 h
      refine wp_exit (ex_then (ex_then (ex_same (nm_then ?_))))
      refine wp_seq ?_
      refine wp_region_lit ?_
      iterate 2 (refine s1 hK rfl rfl rfl rfl fun a hK => ?_)
      refine wpList_nil (nm_then ?_)
      refine wp_ret ?_
      have h := Option.some.inj h
      subst h
      exact finR1 hK rfl (RV.tmp hK rfl) ⟨F64, rfl, hM.ext, (fun b hb => hM.lo b (mem_fps (i := 0) rfl hb)), (Enc.ow_agr hf63 (hM.a 0 rfl))⟩
  · exact ⟨a1, w0, F3, kv5, 0, hK.keep [0, 1, 5] rfl, hM.sel [0] rfl (by decide), hp4, h⟩

theorem c_laws_heldIntS (fu : Nat) {w0 : World} (a1 : List Int) (kv5 : Int) {v2 : Value} {F3 : List Nat} (hp4 : rd w0 F3 [v2] a1) {r : Int}
    (h : d_laws_heldIntS fu a1 kv5 = some r) :
    Calls Tryz.prog 47 #[v2, .int .i64 (kv5)] w0 fun e w => e = .returned (.int .i64 (r)) ∧ Ext [] w0 w := by
  refine enter (vs := [_, _]) Tryz.func47 rfl Tryz.ntmps47 rfl fun a hK => ?_
  have hM := St.start w0
  unfold d_laws_heldIntS at h
  refine wp_seq ?_
  refine wp_region_lit ?_
  refine s1 hK rfl rfl rfl rfl fun a hK => ?_
  refine wpList_nil (nm_then ?_)
  refine wp_seq ?_
  refine wp_seq ?_
  refine wp_region_lit ?_
  refine s1 hK rfl rfl rfl rfl fun a hK => ?_
  refine wpList_nil (nm_then ?_)
  refine wp_block ?_
  refine c_loop (fun n a w => ∃ (kv19 : Int) (i20 : Int), K 21 [(0, v2), (1, .int .i64 (kv19)), (5, .int .i64 (i20))] a ∧ St [] w0 w [] ∧ d_laws_heldIntS_L1 fu a1 n kv19 i20 = some r) ?_ ?_ fu _ _ ?_
  · rintro a w ⟨_, _, _, _, h⟩
    cases (show none = some _ from h)
  · rintro m21 a w18 ⟨kv19, i20, hK, hM, h⟩
    rw [d_laws_heldIntS_L1_s] at h
    unfold d_laws_heldIntS_L1_B at h
    refine wp_seq ?_
    refine wp_seq ?_
    refine wp_region_lit ?_
    iterate 2 (refine s1 hK rfl rfl rfl rfl fun a hK => ?_)
    refine s_val hK rfl rfl rfl (r_len (α := Int) hp4 hK Tryz.underlying29 rfl rfl) fun a hK => ?_
    refine s1 hK rfl rfl rfl rfl fun a hK => ?_
    refine wpList_nil (nm_then ?_)
    refine c_cond (b := decide (i20 < ((a1.length : Int)))) hK rfl (fun hb22 => ?_) (fun hb22 => ?_)
    · have h := bif_t hb22 h
      refine wp_skip (nm_then ?_)
      refine wp_seq ?_
      refine wp_block ?_
      refine wp_seq ?_
      refine wp_seq ?_
      refine wp_region_lit ?_
      iterate 2 (refine s1 hK rfl rfl rfl rfl fun a hK => ?_)
      obtain ⟨x23, hx24, h⟩ := obind_some h
      refine s_val hK rfl rfl rfl (r_ixa hp4 hx24 hK ts29 rfl rfl rfl) fun a hK => ?_
      refine s_val hK rfl rfl rfl (r_lde1 hp4 (hM.a00 (Enc.rd_lt hp4)) hx24 0 t13 hK rfl rfl rfl rfl) fun a hK => ?_
      iterate 2 (refine s1 hK rfl rfl rfl rfl fun a hK => ?_)
      refine wpList_nil (nm_then ?_)
      refine c_cond (b := x23 != kv19) hK rfl (fun hb25 => ?_) (fun hb25 => ?_)
      · have h := bif_t hb25 h
        refine wp_seq ?_
        refine wp_region_lit ?_
        refine s1 hK rfl rfl rfl rfl fun a hK => ?_
        refine wpList_nil (nm_then ?_)
        refine wp_ret (rt_then (rt_block (rt_then (rt_then (rt_block (rt_then ?_))))))
        have h := Option.some.inj h
        subst h
        exact finR1 hK rfl (RV.tmp hK rfl) ⟨rfl, hM.ext⟩
      · have h := bif_f hb25 h
        refine wp_skip (nm_then ?_)
        refine wp_region_lit ?_
        iterate 3 (refine s1 hK rfl rfl rfl rfl fun a hK => ?_)
        refine wpList_nil (nm_block (nm_then ?_))
        refine wp_region_lit ?_
        iterate 3 (refine s1 hK rfl rfl rfl rfl fun a hK => ?_)
        refine wpList_nil (nm_then ?_)
        exact ⟨w64 (kv19 + 1), w64 (i20 + 1), hK.keep [0, 1, 5] rfl, hM.sel [] rfl (by decide), h⟩
    · have h := bif_f hb22 h
      refine wp_exit (ex_then (ex_then (ex_same (nm_then ?_))))
      refine wp_seq ?_
      refine wp_region_lit ?_
      iterate 2 (refine s1 hK rfl rfl rfl rfl fun a hK => ?_)
      refine wpList_nil (nm_then ?_)
      refine wp_ret ?_
      have h := Option.some.inj h
      subst h
      exact finR1 hK rfl (RV.tmp hK rfl) ⟨rfl, hM.ext⟩
  · exact ⟨kv5, 0, hK.keep [0, 1, 5] rfl, hM.sel [] rfl (by decide), h⟩

theorem c_laws_heldIntSS (fu : Nat) {w0 : World} (a1 : List (List Int)) (kv5 : Int) {v2 : Value} {F3 : List Nat} (hp4 : rd w0 F3 [v2] a1) {r : Int}
    (h : d_laws_heldIntSS fu a1 kv5 = some r) :
    Calls Tryz.prog 28 #[v2, .int .i64 (kv5)] w0 fun e w => e = .returned (.int .i64 (r)) ∧ Ext [] w0 w := by
  refine enter (vs := [_, _]) Tryz.func28 rfl Tryz.ntmps28 rfl fun a hK => ?_
  have hM := St.start w0
  unfold d_laws_heldIntSS at h
  refine wp_seq ?_
  refine wp_region_lit ?_
  refine s1 hK rfl rfl rfl rfl fun a hK => ?_
  refine wpList_nil (nm_then ?_)
  refine wp_seq ?_
  refine wp_seq ?_
  refine wp_region_lit ?_
  refine s1 hK rfl rfl rfl rfl fun a hK => ?_
  refine wpList_nil (nm_then ?_)
  refine wp_block ?_
  refine c_loop (fun n a w => ∃ (kv41 : Int) (i42 : Int), K 21 [(0, v2), (1, .int .i64 (kv41)), (5, .int .i64 (i42))] a ∧ St [] w0 w [] ∧ d_laws_heldIntSS_L1 fu a1 n kv41 i42 = some r) ?_ ?_ fu _ _ ?_
  · rintro a w ⟨_, _, _, _, h⟩
    cases (show none = some _ from h)
  · rintro m43 a w40 ⟨kv41, i42, hK, hM, h⟩
    rw [d_laws_heldIntSS_L1_s] at h
    unfold d_laws_heldIntSS_L1_B at h
    refine wp_seq ?_
    refine wp_seq ?_
    refine wp_region_lit ?_
    iterate 2 (refine s1 hK rfl rfl rfl rfl fun a hK => ?_)
    refine s_val hK rfl rfl rfl (r_len (α := List Int) hp4 hK Tryz.underlying47 rfl rfl) fun a hK => ?_
    refine s1 hK rfl rfl rfl rfl fun a hK => ?_
    refine wpList_nil (nm_then ?_)
    refine c_cond (b := decide (i42 < ((a1.length : Int)))) hK rfl (fun hb44 => ?_) (fun hb44 => ?_)
    · have h := bif_t hb44 h
      refine wp_skip (nm_then ?_)
      refine wp_seq ?_
      refine wp_block ?_
      refine wp_seq ?_
      refine wp_region_lit ?_
      iterate 2 (refine s1 hK rfl rfl rfl rfl fun a hK => ?_)
      obtain ⟨x45, hx46, h⟩ := obind_some h
      refine s_val hK rfl rfl rfl (r_ixa hp4 hx46 hK ts47 rfl rfl rfl) fun a hK => ?_
      obtain ⟨G47, cs48, hG49, hr50, hp51, hb52⟩ := rd_get hp4 (ix_some hx46).2.2
      obtain ⟨v53, rfl⟩ : ∃ v, cs48 = [v] := by obtain ⟨_, _, hq, _⟩ := hr50; exact ⟨_, hq⟩
      refine s_val hK rfl rfl rfl (r_ld1 t129 (hp51.agr (hM.a00 (Enc.rd_lt hp4)) hb52) hK rfl rfl) fun a hK => ?_
      refine s1 hK rfl rfl rfl rfl fun a hK => ?_
      obtain ⟨x54, hx55, h⟩ := obind_some h
      refine s_call hK Tryz.call47 rfl rfl rfl rfl rfl (c_laws_heldIntS fu _ _ (Enc.rd_agr hr50 (hM.a00 (Enc.rd_lt hr50))) hx55) fun e56 w57 hR => ?_
      obtain ⟨rfl, hE⟩ := hR
      refine ⟨_, rfl, fun a hK => ?_⟩
      have hM := hM.step hE
      refine s1 hK rfl rfl rfl rfl fun a hK => ?_
      refine wpList_nil (nm_then ?_)
      refine wp_seq ?_
      refine wp_region_lit ?_
      iterate 2 (refine s1 hK rfl rfl rfl rfl fun a hK => ?_)
      refine wpList_nil (nm_then ?_)
      refine c_cond (b := decide (x54 < 0)) hK rfl (fun hb58 => ?_) (fun hb58 => ?_)
      · have h := bif_t hb58 h
        refine wp_seq ?_
        refine wp_region_lit ?_
        refine s1 hK rfl rfl rfl rfl fun a hK => ?_
        refine wpList_nil (nm_then ?_)
        refine wp_ret (rt_block (rt_then (rt_then (rt_block (rt_then ?_)))))
        have h := Option.some.inj h
        subst h
        exact finR1 hK rfl (RV.tmp hK rfl) ⟨rfl, hM.ext⟩
      · have h := bif_f hb58 h
        refine wp_skip (nm_block (nm_then ?_))
        refine wp_region_lit ?_
        iterate 3 (refine s1 hK rfl rfl rfl rfl fun a hK => ?_)
        refine wpList_nil (nm_then ?_)
        exact ⟨x54, w64 (i42 + 1), hK.keep [0, 1, 5] rfl, hM.sel [] rfl (by decide), h⟩
    · have h := bif_f hb44 h
      refine wp_exit (ex_then (ex_then (ex_same (nm_then ?_))))
      refine wp_seq ?_
      refine wp_region_lit ?_
      iterate 2 (refine s1 hK rfl rfl rfl rfl fun a hK => ?_)
      refine wpList_nil (nm_then ?_)
      refine wp_ret ?_
      have h := Option.some.inj h
      subst h
      exact finR1 hK rfl (RV.tmp hK rfl) ⟨rfl, hM.ext⟩
  · exact ⟨kv5, 0, hK.keep [0, 1, 5] rfl, hM.sel [] rfl (by decide), h⟩

end Go.Proofs.YthjbcfefkdbgoaaGreat
