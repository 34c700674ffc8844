/- FnExactSqueeze: what the functions that it reaches compute,on plain data. Printed by gen.py. -/
import Derived.Test.YtkkfmjpbiimkbaaGreatS13
import Derived.Test.YtkkfmjpbiimkbaaGreatS15
import Derived.Test.YtkkfmjpbiimkbaaGreatS18
set_option linter.unusedVariables false
namespace Go.Proofs.YtkkfmjpbiimkbaaGreat
open Go
def d_laws_szPairS (fu:Nat) (a1:List Pair) (Aa:Int):Option (Int) :=
  bif (decide ((w64 (Aa - ((a1.length:Int)))) < 0)) then some ((-1)) else some (w64 (Aa - ((a1.length:Int))))

def d_laws_szTypeS (fu:Nat) (a1:List Typ) (Aa:Int):Option (Int) :=
  bif (decide ((w64 (Aa - ((a1.length:Int)))) < 0)) then some ((-1)) else some (w64 (Aa - ((a1.length:Int))))

def d_laws_szItemS (fu:Nat) (a1:List Item) (Aa:Int):Option (Int) :=
  bif (decide ((w64 (Aa - ((a1.length:Int)))) < 0)) then some ((-1)) else some (w64 (Aa - ((a1.length:Int))))

def d_laws_szRequest (fu:Nat) (a1:Request) (Ad:Int):Option (Int) :=
  obind (d_laws_szPairS fu a1.fPairs Ad) fun Ab=>bif (decide (Ab < 0)) then some ((-1)) else obind (d_laws_szTypeS fu a1.fTypes Ab) fun Ac=>bif (decide (Ac < 0)) then some ((-1)) else obind (d_laws_szItemS fu a1.fItems Ac) fun Aa=>bif (decide (Aa < 0)) then some ((-1)) else some (Aa)

def d_laws_szIntS (fu:Nat) (a1:List Int) (Aa:Int):Option (Int) :=
  bif (decide ((w64 (Aa - ((a1.length:Int)))) < 0)) then some ((-1)) else some (w64 (Aa - ((a1.length:Int))))

def d_laws_szIntSS_L1_B (fu:Nat)  (a1:List (List Int)) (k1:Int → Int → Option (Int)) (Ac:Int) (Aa:Int):Option (Int) :=
  bif (decide (Aa < ((a1.length:Int)))) then obind (ix a1 Aa) fun Ad=>obind (d_laws_szIntS fu Ad Ac) fun Ab=>bif (decide (Ab < 0)) then some ((-1)) else k1 Ab (w64 (Aa + 1)) else some (Ac)
def d_laws_szIntSS_L1 (fu:Nat)  (a1:List (List Int)):Nat → Int → Int → Option (Int)
  | 0=>fun _ _=>none
  | n + 1=>d_laws_szIntSS_L1_B fu a1 (d_laws_szIntSS_L1 fu a1 n)

def d_laws_szIntSS (fu:Nat) (a1:List (List Int)) (Aa:Int):Option (Int) :=
  bif (decide ((w64 (Aa - ((a1.length:Int)))) < 0)) then some ((-1)) else d_laws_szIntSS_L1 fu a1 fu (w64 (Aa - ((a1.length:Int)))) 0

def d_laws_toPallet (fu:Nat) (a1:Pallet):Option (Pallet) :=
  some (a1)

def d_laws_toPair (fu:Nat) (a1:Pair):Option (Pair) :=
  some (a1)

def d_laws_toPairS_L1_B (fu:Nat)  (a1:List Pair) (k1:List Pair → Int → Option ((List Pair))) (Ab:List Pair) (Aa:Int):Option ((List Pair)) :=
  bif (decide (Aa < ((a1.length:Int)))) then obind (ix a1 Aa) fun Ac=>obind (d_laws_toPair fu Ac) fun Ad=>obind (ix Ab Aa) fun Ae=>k1 (setx Ab Aa Ad) (w64 (Aa + 1)) else some (Ab)
def d_laws_toPairS_L1 (fu:Nat)  (a1:List Pair):Nat → List Pair → Int → Option ((List Pair))
  | 0=>fun _ _=>none
  | n + 1=>d_laws_toPairS_L1_B fu a1 (d_laws_toPairS_L1 fu a1 n)

def d_laws_toPairS (fu:Nat) (a1:List Pair):Option ((List Pair)) :=
  obind (mk 16 (⟨(0:Int),(0:Int)⟩:Pair) ((a1.length:Int))) fun x5=>d_laws_toPairS_L1 fu a1 fu x5 0

def d_laws_toType (fu:Nat) (a1:Typ):Option (Typ) :=
  some (a1)

def d_laws_toTypeS_L1_B (fu:Nat)  (a1:List Typ) (k1:List Typ → Int → Option ((List Typ))) (Ab:List Typ) (Aa:Int):Option ((List Typ)) :=
  bif (decide (Aa < ((a1.length:Int)))) then obind (ix a1 Aa) fun Ac=>obind (d_laws_toType fu Ac) fun Ad=>obind (ix Ab Aa) fun Ae=>k1 (setx Ab Aa Ad) (w64 (Aa + 1)) else some (Ab)
def d_laws_toTypeS_L1 (fu:Nat)  (a1:List Typ):Nat → List Typ → Int → Option ((List Typ))
  | 0=>fun _ _=>none
  | n + 1=>d_laws_toTypeS_L1_B fu a1 (d_laws_toTypeS_L1 fu a1 n)

def d_laws_toTypeS (fu:Nat) (a1:List Typ):Option ((List Typ)) :=
  obind (mk 56 (⟨(0:Int),(0:Int),(0:Int),(0:Int),(0:Int),(0:Int),(0:Int)⟩:Typ) ((a1.length:Int))) fun x5=>d_laws_toTypeS_L1 fu a1 fu x5 0

def d_laws_toItem (fu:Nat) (a1:Item):Option (Item) :=
  some (a1)

def d_laws_toItemS_L1_B (fu:Nat)  (a1:List Item) (k1:List Item → Int → Option ((List Item))) (Ab:List Item) (Aa:Int):Option ((List Item)) :=
  bif (decide (Aa < ((a1.length:Int)))) then obind (ix a1 Aa) fun Ac=>obind (d_laws_toItem fu Ac) fun Ad=>obind (ix Ab Aa) fun Ae=>k1 (setx Ab Aa Ad) (w64 (Aa + 1)) else some (Ab)
def d_laws_toItemS_L1 (fu:Nat)  (a1:List Item):Nat → List Item → Int → Option ((List Item))
  | 0=>fun _ _=>none
  | n + 1=>d_laws_toItemS_L1_B fu a1 (d_laws_toItemS_L1 fu a1 n)

def d_laws_toItemS (fu:Nat) (a1:List Item):Option ((List Item)) :=
  obind (mk 56 (⟨(0:Int),(0:Int),(0:Int),(0:Int),(0:Int),(0:Int),(0:Int)⟩:Item) ((a1.length:Int))) fun x5=>d_laws_toItemS_L1 fu a1 fu x5 0

def d_laws_toRequest (fu:Nat) (a1:Request):Option (Request) :=
  obind (d_laws_toPallet fu a1.fPallet) fun Ad=>obind (d_laws_toPairS fu a1.fPairs) fun Ac=>obind (d_laws_toTypeS fu a1.fTypes) fun Ab=>obind (d_laws_toItemS fu a1.fItems) fun Aa=>some ((⟨a1.fWay,Ad,a1.fClasses,Ac,Ab,a1.fMaster,Aa⟩:Request))

def d_laws_toIntS_L1_B (fu:Nat)  (a1:List Int) (k1:List Int → Int → Option ((List Int))) (Ab:List Int) (Aa:Int):Option ((List Int)) :=
  bif (decide (Aa < ((a1.length:Int)))) then obind (ix a1 Aa) fun Ac=>obind (ix Ab Aa) fun Ad=>k1 (setx Ab Aa Ac) (w64 (Aa + 1)) else some (Ab)
def d_laws_toIntS_L1 (fu:Nat)  (a1:List Int):Nat → List Int → Int → Option ((List Int))
  | 0=>fun _ _=>none
  | n + 1=>d_laws_toIntS_L1_B fu a1 (d_laws_toIntS_L1 fu a1 n)

def d_laws_toIntS (fu:Nat) (a1:List Int):Option ((List Int)) :=
  obind (mk 8 (0:Int) ((a1.length:Int))) fun x5=>d_laws_toIntS_L1 fu a1 fu x5 0

def d_laws_toIntSS_L1_B (fu:Nat)  (a1:List (List Int)) (k1:List (List Int) → Int → Option ((List (List Int)))) (Ab:List (List Int)) (Aa:Int):Option ((List (List Int))) :=
  bif (decide (Aa < ((a1.length:Int)))) then obind (ix a1 Aa) fun Ad=>obind (d_laws_toIntS fu Ad) fun Ac=>obind (ix Ab Aa) fun Ae=>k1 (setx Ab Aa Ac) (w64 (Aa + 1)) else some (Ab)
def d_laws_toIntSS_L1 (fu:Nat)  (a1:List (List Int)):Nat → List (List Int) → Int → Option ((List (List Int)))
  | 0=>fun _ _=>none
  | n + 1=>d_laws_toIntSS_L1_B fu a1 (d_laws_toIntSS_L1 fu a1 n)

def d_laws_toIntSS (fu:Nat) (a1:List (List Int)):Option ((List (List Int))) :=
  obind (mk 24 ([]:List Int) ((a1.length:Int))) fun x5=>d_laws_toIntSS_L1 fu a1 fu x5 0

def d_spec_l1In (fu:Nat) (x1:Int) (Aa:Int) (Ab:Int):Option (Bool) :=
  bif (decide (x1 ≥ Aa)) then some (decide (x1 ≤ Ab)) else some (false)

def d_spec_l2Side (fu:Nat) (x1:Int):Option (Bool) :=
  obind (d_spec_l1In fu x1 1 2000) fun x2=>some (x2)

def d_spec_PalletOk (fu:Nat) (x1:Pallet):Option (Bool) :=
  obind (d_spec_l2Side fu x1.fW) fun x5=>bif x5 then obind (d_spec_l2Side fu x1.fD) fun Aa=>bif Aa then obind (d_spec_l2Side fu x1.fH) fun Ac=>bif Ac then obind (d_spec_l1In fu x1.fGram 1 100000) fun Ab=>some (Ab) else some (false) else some (false) else some (false)

def d_spec_l2Id (fu:Nat) (x1:Int):Option (Bool) :=
  obind (d_spec_l1In fu x1 0 999) fun x2=>some (x2)

def d_spec_TypeOk (fu:Nat) (x1:Typ):Option (Bool) :=
  obind (d_spec_l2Id fu x1.fId) fun x5=>bif x5 then obind (d_spec_l2Side fu x1.fW) fun Ad=>bif Ad then obind (d_spec_l2Side fu x1.fH) fun Ac=>bif Ac then obind (d_spec_l2Side fu x1.fD) fun Ae=>bif Ae then obind (d_spec_l1In fu x1.fTare 0 100000) fun Af=>bif Af then obind (d_spec_l1In fu x1.fGram 1 100000) fun Aa=>bif Aa then obind (d_spec_l1In fu x1.fCost 0 100000) fun Ab=>some (Ab) else some (false) else some (false) else some (false) else some (false) else some (false) else some (false)

def d_spec_ItemOk (fu:Nat) (x1:Item):Option (Bool) :=
  obind (d_spec_l2Id fu x1.fId) fun x5=>bif x5 then obind (d_spec_l2Side fu x1.fW) fun Ad=>bif Ad then obind (d_spec_l2Side fu x1.fH) fun Ac=>bif Ac then obind (d_spec_l2Side fu x1.fD) fun Ae=>bif Ae then obind (d_spec_l1In fu x1.fGram 1 100000) fun Af=>bif Af then obind (d_spec_l1In fu x1.fClass 0 3) fun Aa=>bif Aa then obind (d_spec_l1In fu x1.fCount 1 6) fun Ab=>some (Ab) else some (false) else some (false) else some (false) else some (false) else some (false) else some (false)

def d_spec_BoundsOk_J1 (fu:Nat) (k4:Int → Option (Bool)) (Aa:Int)  : Option (Bool) :=
  k4 (w64 (Aa + 1))

def d_spec_BoundsOk_L1_B (fu:Nat)  (r1:Request) (k7:Int → Int → Option (Bool)) (Ac:Int) (Aa:Int):Option (Bool) :=
  bif (decide (Aa < ((r1.fItems.length:Int)))) then obind (ix r1.fItems Aa) fun Ab=>obind (d_spec_ItemOk fu Ab) fun Ad=>bif (!Ad) then some (false) else obind (ix r1.fItems Aa) fun Ae=>k7 (w64 (Ac + Ab.fCount)) (w64 (Aa + 1)) else some (decide (Ac ≤ 12))
def d_spec_BoundsOk_L1 (fu:Nat)  (r1:Request):Nat → Int → Int → Option (Bool)
  | 0=>fun _ _=>none
  | n + 1=>d_spec_BoundsOk_L1_B fu r1 (d_spec_BoundsOk_L1 fu r1 n)

def d_spec_BoundsOk_L2_B (fu:Nat)  (r1:Request) (k6:Int → Option (Bool)) (Aa:Int):Option (Bool) :=
  bif (decide (Aa < ((r1.fTypes.length:Int)))) then obind (ix r1.fTypes Aa) fun Ab=>obind (d_spec_TypeOk fu Ab) fun Ac=>bif (!Ac) then some (false) else k6 (w64 (Aa + 1)) else d_spec_BoundsOk_L1 fu r1 fu 0 0
def d_spec_BoundsOk_L2 (fu:Nat)  (r1:Request):Nat → Int → Option (Bool)
  | 0=>fun _=>none
  | n + 1=>d_spec_BoundsOk_L2_B fu r1 (d_spec_BoundsOk_L2 fu r1 n)

def d_spec_BoundsOk_L3_B (fu:Nat)  (r1:Request) (k4:Int → Option (Bool)) (Aa:Int):Option (Bool) :=
  bif (decide (Aa < ((r1.fPairs.length:Int)))) then obind (ix r1.fPairs Aa) fun Ab=>obind (d_spec_l1In fu Ab.fA 0 3) fun Ad=>bif (!Ad) then some (false) else obind (ix r1.fPairs Aa) fun Ae=>obind (d_spec_l1In fu Ab.fB 0 3) fun Ac=>bif (!Ac) then some (false) else d_spec_BoundsOk_J1 fu k4 Aa else d_spec_BoundsOk_L2 fu r1 fu 0
def d_spec_BoundsOk_L3 (fu:Nat)  (r1:Request):Nat → Int → Option (Bool)
  | 0=>fun _=>none
  | n + 1=>d_spec_BoundsOk_L3_B fu r1 (d_spec_BoundsOk_L3 fu r1 n)

def d_spec_BoundsOk_J2 (fu:Nat) (r1:Request)  : Option (Bool) :=
  d_spec_BoundsOk_L3 fu r1 fu 0

def d_spec_BoundsOk (fu:Nat) (r1:Request):Option (Bool) :=
  obind (d_spec_l1In fu r1.fWay 0 1) fun Ac=>bif (!Ac) then some (false) else obind (d_spec_PalletOk fu r1.fPallet) fun Ae=>bif (!Ae) then some (false) else obind (d_spec_l1In fu r1.fClasses 1 4) fun Ad=>bif (!Ad) then some (false) else bif (decide (((r1.fPairs.length:Int)) > 16)) then some (false) else obind (d_spec_l1In fu ((r1.fTypes.length:Int)) 1 5) fun Aa=>bif (!Aa) then some (false) else obind (d_spec_l2Id fu r1.fMaster) fun Ab=>bif (!Ab) then some (false) else bif (decide (((r1.fItems.length:Int)) > 8)) then some (false) else d_spec_BoundsOk_J2 fu r1

def d_spec_MasterOf_L1_B (fu:Nat)  (r1:Request) (k1:Int → Option (Typ × Bool)) (Aa:Int):Option (Typ × Bool) :=
  bif (decide (Aa < ((r1.fTypes.length:Int)))) then obind (ix r1.fTypes Aa) fun Ab=>bif (Ab.fId == r1.fMaster) then obind (ix r1.fTypes Aa) fun Ac=>some (Ab,true) else k1 (w64 (Aa + 1)) else some ((⟨0,0,0,0,0,0,0⟩:Typ),false)
def d_spec_MasterOf_L1 (fu:Nat)  (r1:Request):Nat → Int → Option (Typ × Bool)
  | 0=>fun _=>none
  | n + 1=>d_spec_MasterOf_L1_B fu r1 (d_spec_MasterOf_L1 fu r1 n)

def d_spec_MasterOf (fu:Nat) (r1:Request):Option (Typ × Bool) :=
  d_spec_MasterOf_L1 fu r1 fu 0

def d_spec_l5Names_L1_B (fu:Nat) (k3:Int → Option (Bool)) (r1:Request) (Ab:Int) (k4:Int → Option (Bool)) (Aa:Int):Option (Bool) :=
  bif (decide (Aa < Ab)) then obind (ix r1.fTypes Ab) fun Ad=>obind (ix r1.fTypes Aa) fun Ac=>bif (Ad.fId == Ac.fId) then some (false) else k4 (w64 (Aa + 1)) else k3 (w64 (Ab + 1))
def d_spec_l5Names_L1 (fu:Nat) (k3:Int → Option (Bool)) (r1:Request) (Aa:Int):Nat → Int → Option (Bool)
  | 0=>fun _=>none
  | n + 1=>d_spec_l5Names_L1_B fu k3 r1 Aa (d_spec_l5Names_L1 fu k3 r1 Aa n)

def d_spec_l5Names_L2_B (fu:Nat) (k7:Int → Option (Bool)) (r1:Request) (Aa:Int) (k8:Int → Option (Bool)) (Ab:Int):Option (Bool) :=
  bif (decide (Ab < Aa)) then obind (ix r1.fItems Aa) fun Ac=>obind (ix r1.fItems Ab) fun Ad=>bif (Ac.fId == Ad.fId) then some (false) else k8 (w64 (Ab + 1)) else k7 (w64 (Aa + 1))
def d_spec_l5Names_L2 (fu:Nat) (k7:Int → Option (Bool)) (r1:Request) (Aa:Int):Nat → Int → Option (Bool)
  | 0=>fun _=>none
  | n + 1=>d_spec_l5Names_L2_B fu k7 r1 Aa (d_spec_l5Names_L2 fu k7 r1 Aa n)

def d_spec_l5Names_J1 (fu:Nat) (Aa:Int → Option (Bool)) (Ab:Int)  : Option (Bool) :=
  Aa (w64 (Ab + 1))

def d_spec_l5Names_L3_B (fu:Nat)  (r1:Request) (Ac:Int → Option (Bool)) (Aa:Int):Option (Bool) :=
  bif (decide (Aa < ((r1.fPairs.length:Int)))) then obind (ix r1.fPairs Aa) fun Ab=>bif (decide (Ab.fA ≥ r1.fClasses)) then some (false) else obind (ix r1.fPairs Aa) fun Ae=>bif (decide (Ab.fB ≥ r1.fClasses)) then some (false) else d_spec_l5Names_J1 fu Ac Aa else obind (d_spec_MasterOf fu r1) fun Ad=>some (Ad.2)
def d_spec_l5Names_L3 (fu:Nat)  (r1:Request):Nat → Int → Option (Bool)
  | 0=>fun _=>none
  | n + 1=>d_spec_l5Names_L3_B fu r1 (d_spec_l5Names_L3 fu r1 n)

def d_spec_l5Names_L4_B (fu:Nat)  (r1:Request) (k7:Int → Option (Bool)) (Aa:Int):Option (Bool) :=
  bif (decide (Aa < ((r1.fItems.length:Int)))) then obind (ix r1.fItems Aa) fun Ab=>bif (decide (Ab.fClass ≥ r1.fClasses)) then some (false) else d_spec_l5Names_L2 fu k7 r1 Aa fu 0 else d_spec_l5Names_L3 fu r1 fu 0
def d_spec_l5Names_L4 (fu:Nat)  (r1:Request):Nat → Int → Option (Bool)
  | 0=>fun _=>none
  | n + 1=>d_spec_l5Names_L4_B fu r1 (d_spec_l5Names_L4 fu r1 n)

def d_spec_l5Names_L5_B (fu:Nat)  (r1:Request) (k3:Int → Option (Bool)) (Aa:Int):Option (Bool) :=
  bif (decide (Aa < ((r1.fTypes.length:Int)))) then d_spec_l5Names_L1 fu k3 r1 Aa fu 0 else d_spec_l5Names_L4 fu r1 fu 0
def d_spec_l5Names_L5 (fu:Nat)  (r1:Request):Nat → Int → Option (Bool)
  | 0=>fun _=>none
  | n + 1=>d_spec_l5Names_L5_B fu r1 (d_spec_l5Names_L5 fu r1 n)

def d_spec_l5Names (fu:Nat) (r1:Request):Option (Bool) :=
  d_spec_l5Names_L5 fu r1 fu 0

def d_spec_Beside_J1 (fu:Nat) (k3:Int → Option (Bool)) (Aa:Int)  : Option (Bool) :=
  k3 (w64 (Aa + 1))

def d_spec_Beside_L1_B (fu:Nat)  (Ab:List Pair) (a5:Int) (b6:Int) (k3:Int → Option (Bool)) (Aa:Int):Option (Bool) :=
  bif (decide (Aa < ((Ab.length:Int)))) then obind (ix Ab Aa) fun Ac=>bif (Ac.fA == a5) then obind (ix Ab Aa) fun Ad=>bif (Ac.fB == b6) then some (true) else d_spec_Beside_J1 fu k3 Aa else d_spec_Beside_J1 fu k3 Aa else some (false)
def d_spec_Beside_L1 (fu:Nat)  (Aa:List Pair) (a5:Int) (b6:Int):Nat → Int → Option (Bool)
  | 0=>fun _=>none
  | n + 1=>d_spec_Beside_L1_B fu Aa a5 b6 (d_spec_Beside_L1 fu Aa a5 b6 n)

def d_spec_Beside (fu:Nat) (Aa:List Pair) (a5:Int) (b6:Int):Option (Bool) :=
  d_spec_Beside_L1 fu Aa a5 b6 fu 0

def d_spec_TableOk_J1 (fu:Nat) (Ab:Int → Option (Bool)) (Aa:Int)  : Option (Bool) :=
  Ab (w64 (Aa + 1))

def d_spec_TableOk_L1_B (fu:Nat) (k9:Int → Option (Bool)) (Ac:List Pair) (Ah:Int) (Ab:Int) (Ad:Int → Option (Bool)) (Aa:Int):Option (Bool) :=
  bif (decide (Aa < Ah)) then bif (Ab == Aa) then obind (d_spec_Beside fu Ac Ab Ab) fun Af=>bif (!Af) then some (false) else obind (d_spec_Beside fu Ac Ab Aa) fun Aj=>obind (d_spec_Beside fu Ac Aa Ab) fun Ae=>bif (!(Aj == Ae)) then some (false) else d_spec_TableOk_J1 fu Ad Aa else obind (d_spec_Beside fu Ac Ab Aa) fun Ag=>obind (d_spec_Beside fu Ac Aa Ab) fun Ai=>bif (!(Ag == Ai)) then some (false) else d_spec_TableOk_J1 fu Ad Aa else k9 (w64 (Ab + 1))
def d_spec_TableOk_L1 (fu:Nat) (k9:Int → Option (Bool)) (Aa:List Pair) (Ac:Int) (Ab:Int):Nat → Int → Option (Bool)
  | 0=>fun _=>none
  | n + 1=>d_spec_TableOk_L1_B fu k9 Aa Ac Ab (d_spec_TableOk_L1 fu k9 Aa Ac Ab n)

def d_spec_TableOk_L2_B (fu:Nat)  (Ac:List Pair) (Ab:Int) (k9:Int → Option (Bool)) (Aa:Int):Option (Bool) :=
  bif (decide (Aa < Ab)) then d_spec_TableOk_L1 fu k9 Ac Ab Aa fu 0 else some (true)
def d_spec_TableOk_L2 (fu:Nat)  (Aa:List Pair) (Ab:Int):Nat → Int → Option (Bool)
  | 0=>fun _=>none
  | n + 1=>d_spec_TableOk_L2_B fu Aa Ab (d_spec_TableOk_L2 fu Aa Ab n)

def d_spec_TableOk (fu:Nat) (Ab:List Pair) (Aa:Int):Option (Bool) :=
  obind (d_spec_l1In fu Aa 1 4) fun x6=>bif (!x6) then some (false) else d_spec_TableOk_L2 fu Ab Aa fu 0

def d_spec_l1Places_L1_B (fu:Nat)  (n1:Int) (k1:List Int → Int → Option ((List Int))) (Ab:List Int) (Aa:Int):Option ((List Int)) :=
  bif (decide (Aa < n1)) then obind (apnd 8 Ab (([Aa]:List Int))) fun Ac=>k1 Ac (w64 (Aa + 1)) else some (Ab)
def d_spec_l1Places_L1 (fu:Nat)  (n1:Int):Nat → List Int → Int → Option ((List Int))
  | 0=>fun _ _=>none
  | n + 1=>d_spec_l1Places_L1_B fu n1 (d_spec_l1Places_L1 fu n1 n)

def d_spec_l1Places (fu:Nat) (n1:Int):Option ((List Int)) :=
  d_spec_l1Places_L1 fu n1 fu (([]:List Int)) 0

def d_spec_l1Merge_J1 (fu:Nat) (k3:List Int → Int → Int → Option ((List Int))) (Ag:List Int) (Aj:Bool) (Ac:(List Int)) (Ae:(List Int)) (Ad:List Int) (Aa:Int) (Ab:Int)  : Option ((List Int)) :=
  bif (Ab == ((Ae.length:Int))) then obind (ix Ac Aa) fun Av=>obind (apnd 8 Ad (([Av]:List Int))) fun Am=>k3 Am (w64 (Aa + 1)) Ab else bif (Aa == ((Ac.length:Int))) then obind (ix Ae Ab) fun Au=>obind (apnd 8 Ad (([Au]:List Int))) fun Al=>k3 Al Aa (w64 (Ab + 1)) else obind (ix Ae Ab) fun Ah=>obind (ix Ag Ah) fun Ai=>obind (ix Ac Aa) fun Af=>obind (ix Ag Af) fun Ak=>bif (decide (Ai < Ak)) then bif (!Aj) then obind (ix Ae Ab) fun Bl=>obind (apnd 8 Ad (([Ah]:List Int))) fun As=>k3 As Aa (w64 (Ab + 1)) else obind (ix Ae Ab) fun Az=>obind (ix Ag Ah) fun Bi=>obind (ix Ac Aa) fun Bc=>obind (ix Ag Af) fun Ay=>bif (decide (Ai > Ak)) then bif Aj then obind (ix Ae Ab) fun Bh=>obind (apnd 8 Ad (([Ah]:List Int))) fun Aw=>k3 Aw Aa (w64 (Ab + 1)) else obind (ix Ac Aa) fun Bf=>obind (apnd 8 Ad (([Af]:List Int))) fun Ao=>k3 Ao (w64 (Aa + 1)) Ab else obind (ix Ac Aa) fun Bg=>obind (apnd 8 Ad (([Af]:List Int))) fun Ar=>k3 Ar (w64 (Aa + 1)) Ab else obind (ix Ae Ab) fun Be=>obind (ix Ag Ah) fun Ax=>obind (ix Ac Aa) fun Bb=>obind (ix Ag Af) fun Bk=>bif (decide (Ai > Ak)) then bif Aj then obind (ix Ae Ab) fun Bd=>obind (apnd 8 Ad (([Ah]:List Int))) fun At=>k3 At Aa (w64 (Ab + 1)) else obind (ix Ac Aa) fun Bj=>obind (apnd 8 Ad (([Af]:List Int))) fun Ap=>k3 Ap (w64 (Aa + 1)) Ab else obind (ix Ac Aa) fun Ba=>obind (apnd 8 Ad (([Af]:List Int))) fun Aq=>k3 Aq (w64 (Aa + 1)) Ab

def d_spec_l1Merge_L1_B (fu:Nat)  (Af:List Int) (Ag:Bool) (Ae:(List Int)) (Ab:(List Int)) (k3:List Int → Int → Int → Option ((List Int))) (Ac:List Int) (Ad:Int) (Aa:Int):Option ((List Int)) :=
  bif (decide (Ad < ((Ae.length:Int)))) then d_spec_l1Merge_J1 fu k3 Af Ag Ae Ab Ac Ad Aa else bif (decide (Aa < ((Ab.length:Int)))) then d_spec_l1Merge_J1 fu k3 Af Ag Ae Ab Ac Ad Aa else some (Ac)
def d_spec_l1Merge_L1 (fu:Nat)  (Aa:List Int) (Ad:Bool) (Ab:(List Int)) (Ac:(List Int)):Nat → List Int → Int → Int → Option ((List Int))
  | 0=>fun _ _ _=>none
  | n + 1=>d_spec_l1Merge_L1_B fu Aa Ad Ab Ac (d_spec_l1Merge_L1 fu Aa Ad Ab Ac n)

def d_spec_l1Merge_RB (fu:Nat) (self:List Int → List Int → Bool → Option ((List Int))) (Ab:List Int) (Aa:List Int) (Ac:Bool):Option ((List Int)) :=
  bif (decide (((Aa.length:Int)) < 2)) then obind (apnd 8 (([]:List Int)) Aa) fun Ag=>some (Ag) else obind (sls Aa 0 (w64 (Int.tdiv ((Aa.length:Int)) 2))) fun Af=>obind (self Ab Af Ac) fun Ah=>obind (sls Aa (w64 (Int.tdiv ((Aa.length:Int)) 2)) (Aa.length:Int)) fun Ae=>obind (self Ab Ae Ac) fun Ad=>d_spec_l1Merge_L1 fu Ab Ac Ah Ad fu (([]:List Int)) 0 0
def d_spec_l1Merge_R (fu:Nat):Nat → List Int → List Int → Bool → Option ((List Int))
  | 0=>fun _ _ _=>none
  | n + 1=>d_spec_l1Merge_RB fu (d_spec_l1Merge_R fu n)
def d_spec_l1Merge (fu:Nat) (Aa:List Int) (Ab:List Int) (Ac:Bool):Option ((List Int)):=d_spec_l1Merge_R fu fu Aa Ab Ac

def d_spec_SortUp (fu:Nat) (Aa:List Int):Option ((List Int)) :=
  obind (d_spec_l1Places fu ((Aa.length:Int))) fun x5=>obind (d_spec_l1Merge fu Aa x5 false) fun Ab=>some (Ab)

def d_spec_l5Sides (fu:Nat) (Aa:Int) (h2:Int) (d3:Int):Option ((List Int)) :=
  obind (d_spec_SortUp fu (([Aa,h2,d3]:List Int))) fun x9=>obind (ix x9 0) fun Ab=>obind (ix (([Aa,h2,d3]:List Int)) Ab) fun Af=>obind (ix x9 1) fun Ac=>obind (ix (([Aa,h2,d3]:List Int)) Ac) fun Ae=>obind (ix x9 2) fun Ag=>obind (ix (([Aa,h2,d3]:List Int)) Ag) fun Ad=>some (([Af,Ae,Ad]:List Int))

def d_spec_Fits (fu:Nat) (x1:Item) (t2:Typ):Option (Bool) :=
  obind (d_spec_l5Sides fu x1.fW x1.fH x1.fD) fun Aa=>obind (d_spec_l5Sides fu t2.fW t2.fH t2.fD) fun Ab=>obind (ix Aa 0) fun Ag=>obind (ix Ab 0) fun Ac=>bif (decide (Ag ≤ Ac)) then obind (ix Aa 1) fun Ad=>obind (ix Ab 1) fun Af=>bif (decide (Ad ≤ Af)) then obind (ix Aa 2) fun Ah=>obind (ix Ab 2) fun Ae=>bif (decide (Ah ≤ Ae)) then some (decide (x1.fGram ≤ t2.fGram)) else some (false) else some (false) else some (false)

def d_spec_Class_J1 (fu:Nat) (k4:Int → Option (Int)) (Aa:Int)  : Option (Int) :=
  k4 (w64 (Aa + 1))

def d_spec_Class_L1_B (fu:Nat)  (r1:Request) (k4:Int → Option (Int)) (Ab:Int):Option (Int) :=
  bif (decide (Ab < ((r1.fTypes.length:Int)))) then obind (ix r1.fTypes Ab) fun Aa=>bif (decide (Aa.fW > r1.fPallet.fW)) then some (6) else bif (decide (Aa.fD > r1.fPallet.fD)) then some (6) else bif (decide (Aa.fH > r1.fPallet.fH)) then some (6) else bif (decide ((w64 (Aa.fTare + Aa.fGram)) > r1.fPallet.fGram)) then some (6) else d_spec_Class_J1 fu k4 Ab else some (0)
def d_spec_Class_L1 (fu:Nat)  (r1:Request):Nat → Int → Option (Int)
  | 0=>fun _=>none
  | n + 1=>d_spec_Class_L1_B fu r1 (d_spec_Class_L1 fu r1 n)

def d_spec_Class_L2_B (fu:Nat)  (r1:Request) (Ab:Typ × Bool) (k1:Int → Option (Int)) (Aa:Int):Option (Int) :=
  bif (decide (Aa < ((r1.fItems.length:Int)))) then obind (ix r1.fItems Aa) fun Ac=>obind (d_spec_Fits fu Ac Ab.1) fun Ad=>bif (!Ad) then some (5) else k1 (w64 (Aa + 1)) else d_spec_Class_L1 fu r1 fu 0
def d_spec_Class_L2 (fu:Nat)  (r1:Request) (Aa:Typ × Bool):Nat → Int → Option (Int)
  | 0=>fun _=>none
  | n + 1=>d_spec_Class_L2_B fu r1 Aa (d_spec_Class_L2 fu r1 Aa n)

def d_spec_Class (fu:Nat) (r1:Request):Option (Int) :=
  obind (d_spec_BoundsOk fu r1) fun Aa=>bif (!Aa) then some (2) else obind (d_spec_l5Names fu r1) fun Ac=>bif (!Ac) then some (3) else obind (d_spec_TableOk fu r1.fPairs r1.fClasses) fun Ad=>bif (!Ad) then some (4) else obind (d_spec_MasterOf fu r1) fun Ab=>d_spec_Class_L2 fu r1 Ab fu 0

def d_spec_l6Units_L1_B (fu:Nat) (k3:List Int → Int → Option ((List Int))) (r1:Request) (Aa:Int) (k4:List Int → Int → Option ((List Int))) (Ab:List Int) (Ac:Int):Option ((List Int)) :=
  obind (ix r1.fItems Aa) fun Ad=>bif (decide (Ac < Ad.fCount)) then obind (apnd 8 Ab (([Aa]:List Int))) fun Ae=>k4 Ae (w64 (Ac + 1)) else k3 Ab (w64 (Aa + 1))
def d_spec_l6Units_L1 (fu:Nat) (k3:List Int → Int → Option ((List Int))) (r1:Request) (Aa:Int):Nat → List Int → Int → Option ((List Int))
  | 0=>fun _ _=>none
  | n + 1=>d_spec_l6Units_L1_B fu k3 r1 Aa (d_spec_l6Units_L1 fu k3 r1 Aa n)

def d_spec_l6Units_L2_B (fu:Nat)  (r1:Request) (k3:List Int → Int → Option ((List Int))) (Ab:List Int) (Aa:Int):Option ((List Int)) :=
  bif (decide (Aa < ((r1.fItems.length:Int)))) then d_spec_l6Units_L1 fu k3 r1 Aa fu Ab 0 else some (Ab)
def d_spec_l6Units_L2 (fu:Nat)  (r1:Request):Nat → List Int → Int → Option ((List Int))
  | 0=>fun _ _=>none
  | n + 1=>d_spec_l6Units_L2_B fu r1 (d_spec_l6Units_L2 fu r1 n)

def d_spec_l6Units (fu:Nat) (r1:Request):Option ((List Int)) :=
  d_spec_l6Units_L2 fu r1 fu (([]:List Int)) 0

def d_spec_Units (fu:Nat) (r1:Request):Option ((List Int)) :=
  obind (d_spec_Class fu r1) fun Aa=>bif (Aa != 0) then some (([]:List Int)) else obind (d_spec_l6Units fu r1) fun Ab=>some (Ab)

def d_spec_l6Item (fu:Nat) (r1:Request) (Aa:List Int) (u9:Int):Option (Item × Bool) :=
  obind (d_spec_l1In fu u9 0 (w64 (((Aa.length:Int)) - 1))) fun Ad=>bif (!Ad) then some ((⟨0,0,0,0,0,0,0⟩:Item),false) else obind (ix Aa u9) fun Ac=>obind (ix r1.fItems Ac) fun Ab=>some (Ab,true)

def d_spec_Volume_J1 (fu:Nat) (Aa:Int) (h2:Int) (d3:Int)  : Option (Int) :=
  some (w64 ((w64 (Aa * h2)) * d3))

def d_spec_Volume (fu:Nat) (Aa:Int) (h2:Int) (d3:Int):Option (Int) :=
  obind (d_spec_l1In fu Aa 0 2000) fun Ab=>bif (!Ab) then some (0) else obind (d_spec_l1In fu h2 0 2000) fun Ad=>bif (!Ad) then some (0) else obind (d_spec_l1In fu d3 0 2000) fun Ac=>bif (!Ac) then some (0) else d_spec_Volume_J1 fu Aa h2 d3

def d_spec_l7Of_J1 (fu:Nat) (k7:L7 → Int → Option (L7)) (Ab:Int) (Aa:L7):Option (L7) :=
  k7 Aa (w64 (Ab + 1))

def d_spec_l7Of_J2 (fu:Nat) (k7:L7 → Int → Option (L7)) (Ab:L7) (Ac:Int) (Aa:Item):Option (L7) :=
  obind (d_spec_Volume fu Aa.fW Aa.fH Aa.fD) fun Ad=>d_spec_l7Of_J1 fu k7 Ac ((⟨w64 (Ab.fvol + Ad),w64 (Ab.fgram + Aa.fGram)⟩:L7))

def d_spec_l7Of_L1_B (fu:Nat)  (r1:Request) (Ae:List Int) (Ab:List Int) (k7:L7 → Int → Option (L7)) (Ac:L7) (Aa:Int):Option (L7) :=
  bif (decide (Aa < ((Ab.length:Int)))) then obind (ix Ab Aa) fun Ad=>obind (d_spec_l6Item fu r1 Ae Ad) fun Af=>d_spec_l7Of_J2 fu k7 Ac Aa Af.1 else some (Ac)
def d_spec_l7Of_L1 (fu:Nat)  (r1:Request) (Ab:List Int) (Aa:List Int):Nat → L7 → Int → Option (L7)
  | 0=>fun _ _=>none
  | n + 1=>d_spec_l7Of_L1_B fu r1 Ab Aa (d_spec_l7Of_L1 fu r1 Ab Aa n)

def d_spec_l7Of (fu:Nat) (r1:Request) (Ab:List Int) (Aa:List Int):Option (L7) :=
  d_spec_l7Of_L1 fu r1 Ab Aa fu ((⟨0,0⟩:L7)) 0

def d_spec_l7Known_J1 (fu:Nat) (k3:List Int → Int → Option ((List Int))) (Aa:Int) (Ab:List Int):Option ((List Int)) :=
  k3 Ab (w64 (Aa + 1))

def d_spec_l7Known_L1_B (fu:Nat)  (Ag:List Int) (Ac:List Int) (k3:List Int → Int → Option ((List Int))) (Ab:List Int) (Aa:Int):Option ((List Int)) :=
  bif (decide (Aa < ((Ac.length:Int)))) then obind (ix Ac Aa) fun Ad=>obind (d_spec_l1In fu Ad 0 (w64 (((Ag.length:Int)) - 1))) fun Af=>bif Af then obind (ix Ac Aa) fun Ah=>obind (apnd 8 Ab (([Ad]:List Int))) fun Ae=>d_spec_l7Known_J1 fu k3 Aa Ae else d_spec_l7Known_J1 fu k3 Aa Ab else some (Ab)
def d_spec_l7Known_L1 (fu:Nat)  (Ab:List Int) (Aa:List Int):Nat → List Int → Int → Option ((List Int))
  | 0=>fun _ _=>none
  | n + 1=>d_spec_l7Known_L1_B fu Ab Aa (d_spec_l7Known_L1 fu Ab Aa n)

def d_spec_l7Known (fu:Nat) (Ab:List Int) (Aa:List Int):Option ((List Int)) :=
  d_spec_l7Known_L1 fu Ab Aa fu (([]:List Int)) 0

def d_spec_l1Bit (fu:Nat) (Aa:Bool):Option (Int) :=
  bif Aa then some (1) else some (0)

def d_spec_l8Times_L1_B (fu:Nat)  (Ab:List Int) (x5:Int) (k1:Int → Int → Option (Int)) (Ac:Int) (Aa:Int):Option (Int) :=
  bif (decide (Aa < ((Ab.length:Int)))) then obind (ix Ab Aa) fun Ae=>obind (d_spec_l1Bit fu (Ae == x5)) fun Ad=>k1 (w64 (Ac + Ad)) (w64 (Aa + 1)) else some (Ac)
def d_spec_l8Times_L1 (fu:Nat)  (Aa:List Int) (x5:Int):Nat → Int → Int → Option (Int)
  | 0=>fun _ _=>none
  | n + 1=>d_spec_l8Times_L1_B fu Aa x5 (d_spec_l8Times_L1 fu Aa x5 n)

def d_spec_l8Times (fu:Nat) (Aa:List Int) (x5:Int):Option (Int) :=
  d_spec_l8Times_L1 fu Aa x5 fu 0 0

def d_spec_IsPacking_L1_B (fu:Nat)  (Aa:List Int) (Af:(List Int)) (Ad:Int → Option (Bool)) (Ab:Int):Option (Bool) :=
  bif (decide (Ab < ((Aa.length:Int)))) then obind (ix Aa Ab) fun Ac=>obind (ix Aa Ab) fun Ah=>obind (d_spec_l8Times fu Aa Ac) fun Ae=>obind (d_spec_l8Times fu Af Ac) fun Ag=>bif (Ae != Ag) then some (false) else Ad (w64 (Ab + 1)) else some (true)
def d_spec_IsPacking_L1 (fu:Nat)  (Aa:List Int) (Ab:(List Int)):Nat → Int → Option (Bool)
  | 0=>fun _=>none
  | n + 1=>d_spec_IsPacking_L1_B fu Aa Ab (d_spec_IsPacking_L1 fu Aa Ab n)

def d_spec_IsPacking_J1 (fu:Nat) (Ac:List Int) (Ad:(List Int)) (Ab:List Int):Option (Bool) :=
  obind (d_spec_l7Known fu Ad Ac) fun Aa=>bif (((Aa.length:Int)) != ((Ab.length:Int))) then some (false) else d_spec_IsPacking_L1 fu Ab Aa fu 0

def d_spec_IsPacking_J2 (fu:Nat) (Ab:List Int → Int → Option (Bool)) (Aa:Int) (Ac:List Int):Option (Bool) :=
  Ab Ac (w64 (Aa + 1))

def d_spec_IsPacking_J3 (fu:Nat) (Af:List Int → Int → Option (Bool)) (Ae:List (List Int)) (Ad:List Int) (Aa:Int)  : Option (Bool) :=
  obind (ix Ae Aa) fun Ab=>obind (apnd 8 Ad Ab) fun Ac=>d_spec_IsPacking_J2 fu Af Aa Ac

def d_spec_IsPacking_J4 (fu:Nat) (Af:List Int → Int → Option (Bool)) (Ac:List (List Int)) (Aa:Typ × Bool) (Ae:List Int) (Ab:Int) (Ad:L7):Option (Bool) :=
  obind (ix Ac Ab) fun Ah=>bif (((Ah.length:Int)) == 0) then some (false) else obind (d_spec_Volume fu Aa.1.fW Aa.1.fH Aa.1.fD) fun Ag=>bif (decide (Ad.fvol > Ag)) then some (false) else bif (decide (Ad.fgram > Aa.1.fGram)) then some (false) else d_spec_IsPacking_J3 fu Af Ac Ae Ab

def d_spec_IsPacking_L2_B (fu:Nat)  (r1:Request) (Ag:List Int) (Ab:List (List Int)) (Ae:Typ × Bool) (Ad:(List Int)) (Ah:List Int → Int → Option (Bool)) (Ac:List Int) (Aa:Int):Option (Bool) :=
  bif (decide (Aa < ((Ab.length:Int)))) then obind (ix Ab Aa) fun Ai=>obind (d_spec_l7Of fu r1 Ad Ai) fun Af=>d_spec_IsPacking_J4 fu Ah Ab Ae Ac Aa Af else d_spec_IsPacking_J1 fu Ag Ad Ac
def d_spec_IsPacking_L2 (fu:Nat)  (r1:Request) (Ab:List Int) (Ac:List (List Int)) (Aa:Typ × Bool) (Ad:(List Int)):Nat → List Int → Int → Option (Bool)
  | 0=>fun _ _=>none
  | n + 1=>d_spec_IsPacking_L2_B fu r1 Ab Ac Aa Ad (d_spec_IsPacking_L2 fu r1 Ab Ac Aa Ad n)

def d_spec_IsPacking (fu:Nat) (r1:Request) (Ab:List Int) (Ac:List (List Int)):Option (Bool) :=
  obind (d_spec_Class fu r1) fun Ad=>bif (Ad != 0) then some (false) else obind (d_spec_MasterOf fu r1) fun Aa=>obind (d_spec_l6Units fu r1) fun Ae=>d_spec_IsPacking_L2 fu r1 Ab Ac Aa Ae fu (([]:List Int)) 0

def d_spec_IsRival_J1 (fu:Nat) (Ab:Int → Option (Bool)) (Aa:Int)  : Option (Bool) :=
  Ab (w64 (Aa + 1))

def d_spec_IsRival_J2 (fu:Nat) (Aa:Int → Option (Bool)) (Ab:Int)  : Option (Bool) :=
  Aa (w64 (Ab + 1))

def d_spec_IsRival_J3 (fu:Nat) (Ab:Int → Option (Bool)) (Aa:Int)  : Option (Bool) :=
  Ab (w64 (Aa + 1))

def d_spec_IsRival_J4 (fu:Nat) (Ab:Int → Option (Bool)) (r1:Request) (Ad:Int) (Aa:Item) (Ac:Item):Option (Bool) :=
  obind (d_spec_Beside fu r1.fPairs Aa.fClass Ac.fClass) fun Ae=>bif (!Ae) then some (false) else d_spec_IsRival_J3 fu Ab Ad

def d_spec_IsRival_J5 (fu:Nat) (Ac:Int → Option (Bool)) (r1:Request) (Ah:List (List Int)) (Ai:(List Int)) (Ag:Int) (Aa:Int) (Ab:Item):Option (Bool) :=
  obind (ix Ah Ag) fun Ae=>obind (ix Ae Aa) fun Ad=>obind (d_spec_l6Item fu r1 Ai Ad) fun Af=>d_spec_IsRival_J4 fu Ac r1 Aa Ab Af.1

def d_spec_IsRival_L1_B (fu:Nat) (Ai:Int → Option (Bool)) (r1:Request) (Ab:List (List Int)) (Af:(List Int)) (Aa:Int) (Ae:Int) (Ah:Int → Option (Bool)) (Ad:Int):Option (Bool) :=
  obind (ix Ab Aa) fun Ac=>bif (decide (Ad < ((Ac.length:Int)))) then obind (ix Ab Aa) fun Ak=>obind (ix Ac Ae) fun Ag=>obind (d_spec_l6Item fu r1 Af Ag) fun Aj=>d_spec_IsRival_J5 fu Ah r1 Ab Af Aa Ad Aj.1 else d_spec_IsRival_J2 fu Ai Ae
def d_spec_IsRival_L1 (fu:Nat) (Ad:Int → Option (Bool)) (r1:Request) (Ac:List (List Int)) (Ae:(List Int)) (Ab:Int) (Aa:Int):Nat → Int → Option (Bool)
  | 0=>fun _=>none
  | n + 1=>d_spec_IsRival_L1_B fu Ad r1 Ac Ae Ab Aa (d_spec_IsRival_L1 fu Ad r1 Ac Ae Ab Aa n)

def d_spec_IsRival_L2_B (fu:Nat) (Ag:Int → Option (Bool)) (r1:Request) (Ac:List (List Int)) (Af:(List Int)) (Aa:Int) (Ae:Int → Option (Bool)) (Ab:Int):Option (Bool) :=
  obind (ix Ac Aa) fun Ad=>bif (decide (Ab < ((Ad.length:Int)))) then d_spec_IsRival_L1 fu Ae r1 Ac Af Aa Ab fu 0 else d_spec_IsRival_J1 fu Ag Aa
def d_spec_IsRival_L2 (fu:Nat) (Ad:Int → Option (Bool)) (r1:Request) (Ab:List (List Int)) (Ac:(List Int)) (Aa:Int):Nat → Int → Option (Bool)
  | 0=>fun _=>none
  | n + 1=>d_spec_IsRival_L2_B fu Ad r1 Ab Ac Aa (d_spec_IsRival_L2 fu Ad r1 Ab Ac Aa n)

def d_spec_IsRival_L3_B (fu:Nat)  (r1:Request) (Ab:List (List Int)) (Ac:(List Int)) (Ad:Int → Option (Bool)) (Aa:Int):Option (Bool) :=
  bif (decide (Aa < ((Ab.length:Int)))) then d_spec_IsRival_L2 fu Ad r1 Ab Ac Aa fu 0 else some (true)
def d_spec_IsRival_L3 (fu:Nat)  (r1:Request) (Aa:List (List Int)) (Ab:(List Int)):Nat → Int → Option (Bool)
  | 0=>fun _=>none
  | n + 1=>d_spec_IsRival_L3_B fu r1 Aa Ab (d_spec_IsRival_L3 fu r1 Aa Ab n)

def d_spec_IsRival (fu:Nat) (r1:Request) (Aa:List (List Int)):Option (Bool) :=
  obind (d_spec_Units fu r1) fun Ab=>obind (d_spec_l1Places fu ((Ab.length:Int))) fun Ac=>obind (d_spec_IsPacking fu r1 Ac Aa) fun Ad=>bif (!Ad) then some (false) else d_spec_IsRival_L3 fu r1 Aa Ab fu 0

def d_spec_l20Copy_L1_B (fu:Nat)  (Ab:List (List Int)) (k1:List (List Int) → Int → Option ((List (List Int)))) (Ac:List (List Int)) (Aa:Int):Option ((List (List Int))) :=
  bif (decide (Aa < ((Ab.length:Int)))) then obind (ix Ab Aa) fun Af=>obind (apnd 8 (([]:List Int)) Af) fun Ad=>obind (apnd 24 Ac [Ad]) fun Ae=>k1 Ae (w64 (Aa + 1)) else some (Ac)
def d_spec_l20Copy_L1 (fu:Nat)  (Aa:List (List Int)):Nat → List (List Int) → Int → Option ((List (List Int)))
  | 0=>fun _ _=>none
  | n + 1=>d_spec_l20Copy_L1_B fu Aa (d_spec_l20Copy_L1 fu Aa n)

def d_spec_l20Copy (fu:Nat) (Aa:List (List Int)):Option ((List (List Int))) :=
  d_spec_l20Copy_L1 fu Aa fu (([]:List (List Int))) 0

def d_spec_l7Room_J1 (fu:Nat) (m9:Typ) (Aa:L7):Option (Bool) :=
  obind (d_spec_Volume fu m9.fW m9.fH m9.fD) fun Ab=>bif (decide (Aa.fvol ≤ Ab)) then some (decide (Aa.fgram ≤ m9.fGram)) else some (false)

def d_spec_l7Room (fu:Nat) (r1:Request) (Ae:List Int) (m9:Typ) (Aa:List Int) (Af:Int):Option (Bool) :=
  obind (apnd 8 (([]:List Int)) Aa) fun Ac=>obind (apnd 8 Ac (([Af]:List Int))) fun Ab=>obind (d_spec_l7Of fu r1 Ae Ab) fun Ad=>d_spec_l7Room_J1 fu m9 Ad

def d_spec_l18May_J1 (fu:Nat) (k7:Int → Option (Bool)) (Aa:Int)  : Option (Bool) :=
  k7 (w64 (Aa + 1))

def d_spec_l18May_J2 (fu:Nat) (k7:Int → Option (Bool)) (r1:Request) (Ab:Item × Bool) (Ae:Int) (Aa:Item):Option (Bool) :=
  obind (d_spec_Beside fu r1.fPairs Ab.1.fClass Aa.fClass) fun Ac=>bif (!Ac) then some (false) else obind (d_spec_Beside fu r1.fPairs Aa.fClass Ab.1.fClass) fun Ad=>bif (!Ad) then some (false) else d_spec_l18May_J1 fu k7 Ae

def d_spec_l18May_L1_B (fu:Nat)  (r1:Request) (Ac:List Int) (Ab:List Int) (Ad:Item × Bool) (k7:Int → Option (Bool)) (Aa:Int):Option (Bool) :=
  bif (decide (Aa < ((Ab.length:Int)))) then obind (ix Ab Aa) fun Ae=>obind (d_spec_l6Item fu r1 Ac Ae) fun Af=>d_spec_l18May_J2 fu k7 r1 Ad Aa Af.1 else some (true)
def d_spec_l18May_L1 (fu:Nat)  (r1:Request) (Ac:List Int) (Aa:List Int) (Ab:Item × Bool):Nat → Int → Option (Bool)
  | 0=>fun _=>none
  | n + 1=>d_spec_l18May_L1_B fu r1 Ac Aa Ab (d_spec_l18May_L1 fu r1 Ac Aa Ab n)

def d_spec_l18May (fu:Nat) (r1:Request) (Aa:List Int) (Ab:List Int) (Ad:Int):Option (Bool) :=
  obind (d_spec_l6Item fu r1 Aa Ad) fun Ac=>d_spec_l18May_L1 fu r1 Aa Ab Ac fu 0

def d_spec_l20Empty_J1 (fu:Nat) (Ac:Int → Int → Option ((List (List Int)) × Bool)) (Ab:Int) (Aa:Int):Option ((List (List Int)) × Bool) :=
  Ac Aa (w64 (Ab - 1))

def d_spec_l20Empty_L1_B (fu:Nat) (k9:List (List Int) → Int → Option ((List (List Int)) × Bool)) (r1:Request) (Af:List Int) (m9:Typ) (Am:List (List Int)) (Ao:Int) (Ac:List (List Int)) (Aj:Int) (Ae:Int) (Ad:Int → Int → Option ((List (List Int)) × Bool)) (Ab:Int) (Aa:Int):Option ((List (List Int)) × Bool) :=
  bif (decide (Aa ≥ 0)) then bif (Aa != Ao) then obind (ix Ac Aa) fun Ag=>obind (d_spec_l7Room fu r1 Af m9 Ag Ae) fun Ai=>bif Ai then obind (ix Ac Aa) fun Aq=>obind (d_spec_l18May fu r1 Af Ag Ae) fun Al=>bif Al then d_spec_l20Empty_J1 fu Ad Aa Aa else d_spec_l20Empty_J1 fu Ad Aa Ab else d_spec_l20Empty_J1 fu Ad Aa Ab else d_spec_l20Empty_J1 fu Ad Aa Ab else bif (decide (Ab < 0)) then some (Am,false) else obind (ix Ac Ab) fun Ak=>obind (apnd 8 Ak (([Ae]:List Int))) fun Ah=>obind (ix Ac Ab) fun Ap=>k9 (setx Ac Ab Ah) (w64 (Aj + 1))
def d_spec_l20Empty_L1 (fu:Nat) (k9:List (List Int) → Int → Option ((List (List Int)) × Bool)) (r1:Request) (Ac:List Int) (m9:Typ) (Ab:List (List Int)) (Ad:Int) (Af:List (List Int)) (Aa:Int) (Ae:Int):Nat → Int → Int → Option ((List (List Int)) × Bool)
  | 0=>fun _ _=>none
  | n + 1=>d_spec_l20Empty_L1_B fu k9 r1 Ac m9 Ab Ad Af Aa Ae (d_spec_l20Empty_L1 fu k9 r1 Ac m9 Ab Ad Af Aa Ae n)

def d_spec_l20Empty_L2_B (fu:Nat)  (r1:Request) (Ai:List Int) (m9:Typ) (Ad:List (List Int)) (Aa:Int) (k9:List (List Int) → Int → Option ((List (List Int)) × Bool)) (Ab:List (List Int)) (Ac:Int):Option ((List (List Int)) × Bool) :=
  obind (ix Ad Aa) fun Ae=>bif (decide (Ac < ((Ae.length:Int)))) then obind (ix Ad Aa) fun Al=>obind (ix Ae Ac) fun Aj=>d_spec_l20Empty_L1 fu k9 r1 Ai m9 Ad Aa Ab Ac Aj fu ((-1)) (w64 (((Ab.length:Int)) - 1)) else obind (sls Ab 0 Aa) fun Ag=>obind (sls Ab (w64 (Aa + 1)) (Ab.length:Int)) fun Ak=>obind (apnd 24 (([]:List (List Int))) Ag) fun Af=>obind (apnd 24 Af Ak) fun Ah=>some (Ah,true)
def d_spec_l20Empty_L2 (fu:Nat)  (r1:Request) (Ab:List Int) (m9:Typ) (Aa:List (List Int)) (Ac:Int):Nat → List (List Int) → Int → Option ((List (List Int)) × Bool)
  | 0=>fun _ _=>none
  | n + 1=>d_spec_l20Empty_L2_B fu r1 Ab m9 Aa Ac (d_spec_l20Empty_L2 fu r1 Ab m9 Aa Ac n)

def d_spec_l20Empty (fu:Nat) (r1:Request) (Ac:List Int) (m9:Typ) (Aa:List (List Int)) (Ad:Int):Option ((List (List Int)) × Bool) :=
  obind (d_spec_l20Copy fu Aa) fun Ab=>d_spec_l20Empty_L2 fu r1 Ac m9 Aa Ad fu Ab 0

def d_spec_Squeeze_J1 (fu:Nat) (k3:List (List Int) → Int → Option ((List (List Int)))) (Ab:Int) (Aa:List (List Int)):Option ((List (List Int))) :=
  k3 Aa (w64 (Ab - 1))

def d_spec_Squeeze_L1_B (fu:Nat)  (r1:Request) (Ad:Typ × Bool) (Ae:(List Int)) (k3:List (List Int) → Int → Option ((List (List Int)))) (Ab:List (List Int)) (Aa:Int):Option ((List (List Int))) :=
  bif (decide (Aa ≥ 0)) then obind (d_spec_l20Empty fu r1 Ae Ad.1 Ab Aa) fun Ac=>bif Ac.2 then d_spec_Squeeze_J1 fu k3 Aa Ac.1 else d_spec_Squeeze_J1 fu k3 Aa Ab else some (Ab)
def d_spec_Squeeze_L1 (fu:Nat)  (r1:Request) (Aa:Typ × Bool) (Ab:(List Int)):Nat → List (List Int) → Int → Option ((List (List Int)))
  | 0=>fun _ _=>none
  | n + 1=>d_spec_Squeeze_L1_B fu r1 Aa Ab (d_spec_Squeeze_L1 fu r1 Aa Ab n)

def d_spec_Squeeze (fu:Nat) (r1:Request) (Aa:List (List Int)):Option ((List (List Int))) :=
  obind (d_spec_IsRival fu r1 Aa) fun Ae=>bif (!Ae) then some (([]:List (List Int))) else obind (d_spec_MasterOf fu r1) fun Ab=>obind (d_spec_l6Units fu r1) fun Ad=>obind (d_spec_l20Copy fu Aa) fun Ac=>d_spec_Squeeze_L1 fu r1 Ab Ad fu Ac (w64 (((Aa.length:Int)) - 1))

def d_impl_TypeById_1 (fu:Nat) (t1:Typ) (x2:Int):Option (Bool) :=
  some (t1.fId == x2)

def d_slices_IndexFunc_impl_Type_impl_Type_L1_B (fu:Nat)  (Ab:List Typ) (f5:Typ → Option Bool) (k1:Int → Option (Int)) (Aa:Int):Option (Int) :=
  bif (decide (Aa < ((Ab.length:Int)))) then obind (ix Ab Aa) fun Ad=>obind (f5 Ad) fun Ac=>bif Ac then some (Aa) else k1 (w64 (Aa + 1)) else some ((-1))
def d_slices_IndexFunc_impl_Type_impl_Type_L1 (fu:Nat)  (Aa:List Typ) (f5:Typ → Option Bool):Nat → Int → Option (Int)
  | 0=>fun _=>none
  | n + 1=>d_slices_IndexFunc_impl_Type_impl_Type_L1_B fu Aa f5 (d_slices_IndexFunc_impl_Type_impl_Type_L1 fu Aa f5 n)

def d_slices_IndexFunc_impl_Type_impl_Type (fu:Nat) (Aa:List Typ) (f5:Typ → Option Bool):Option (Int) :=
  d_slices_IndexFunc_impl_Type_impl_Type_L1 fu Aa f5 fu 0

def d_impl_TypeById (fu:Nat) (r1:Request) (Ac:Int):Option (Typ × Bool) :=
  obind (d_slices_IndexFunc_impl_Type_impl_Type fu r1.fTypes (fun Ad=>d_impl_TypeById_1 fu Ad Ac)) fun Aa=>bif (decide (Aa < 0)) then some ((⟨0,0,0,0,0,0,0⟩:Typ),false) else obind (ix r1.fTypes Aa) fun Ab=>some (Ab,true)

def d_impl_MasterOf (fu:Nat) (r1:Request):Option (Typ × Bool) :=
  obind (d_impl_TypeById fu r1 r1.fMaster) fun Aa=>some (Aa.1,Aa.2)

def d_impl_in (fu:Nat) (n1:Int) (Aa:Int) (Ab:Int):Option (Bool) :=
  bif (decide (n1 ≥ Aa)) then some (decide (n1 ≤ Ab)) else some (false)

def d_impl_isSide (fu:Nat) (n1:Int):Option (Bool) :=
  obind (d_impl_in fu n1 1 2000) fun x2=>some (x2)

def d_impl_PalletOk (fu:Nat) (x1:Pallet):Option (Bool) :=
  obind (d_impl_isSide fu x1.fW) fun x5=>bif x5 then obind (d_impl_isSide fu x1.fD) fun Aa=>bif Aa then obind (d_impl_isSide fu x1.fH) fun Ac=>bif Ac then obind (d_impl_in fu x1.fGram 1 100000) fun Ab=>some (Ab) else some (false) else some (false) else some (false)

def d_slices_IndexFunc_impl_Pair_impl_Pair_L1_B (fu:Nat)  (Ab:List Pair) (f5:Pair → Option Bool) (k1:Int → Option (Int)) (Aa:Int):Option (Int) :=
  bif (decide (Aa < ((Ab.length:Int)))) then obind (ix Ab Aa) fun Ad=>obind (f5 Ad) fun Ac=>bif Ac then some (Aa) else k1 (w64 (Aa + 1)) else some ((-1))
def d_slices_IndexFunc_impl_Pair_impl_Pair_L1 (fu:Nat)  (Aa:List Pair) (f5:Pair → Option Bool):Nat → Int → Option (Int)
  | 0=>fun _=>none
  | n + 1=>d_slices_IndexFunc_impl_Pair_impl_Pair_L1_B fu Aa f5 (d_slices_IndexFunc_impl_Pair_impl_Pair_L1 fu Aa f5 n)

def d_slices_IndexFunc_impl_Pair_impl_Pair (fu:Nat) (Aa:List Pair) (f5:Pair → Option Bool):Option (Int) :=
  d_slices_IndexFunc_impl_Pair_impl_Pair_L1 fu Aa f5 fu 0

def d_slices_ContainsFunc_impl_Pair_impl_Pair (fu:Nat) (Aa:List Pair) (f5:Pair → Option Bool):Option (Bool) :=
  obind (d_slices_IndexFunc_impl_Pair_impl_Pair fu Aa f5) fun Ab=>some (decide (Ab ≥ 0))

def d_impl_BoundsOk_1 (fu:Nat) (p1:Pair):Option (Bool) :=
  obind (d_impl_in fu p1.fA 0 3) fun x5=>bif (!x5) then some (true) else obind (d_impl_in fu p1.fB 0 3) fun Aa=>some (!Aa)

def d_slices_ContainsFunc_impl_Type_impl_Type (fu:Nat) (Aa:List Typ) (f5:Typ → Option Bool):Option (Bool) :=
  obind (d_slices_IndexFunc_impl_Type_impl_Type fu Aa f5) fun Ab=>some (decide (Ab ≥ 0))

def d_impl_TypeOk (fu:Nat) (x1:Typ):Option (Bool) :=
  obind (d_impl_in fu x1.fId 0 999) fun x5=>bif x5 then obind (d_impl_isSide fu x1.fW) fun Ad=>bif Ad then obind (d_impl_isSide fu x1.fH) fun Ac=>bif Ac then obind (d_impl_isSide fu x1.fD) fun Ae=>bif Ae then obind (d_impl_in fu x1.fTare 0 100000) fun Af=>bif Af then obind (d_impl_in fu x1.fGram 1 100000) fun Aa=>bif Aa then obind (d_impl_in fu x1.fCost 0 100000) fun Ab=>some (Ab) else some (false) else some (false) else some (false) else some (false) else some (false) else some (false)

def d_impl_BoundsOk_2 (fu:Nat) (t1:Typ):Option (Bool) :=
  obind (d_impl_TypeOk fu t1) fun x5=>some (!x5)

def d_impl_ItemOk (fu:Nat) (x1:Item):Option (Bool) :=
  obind (d_impl_in fu x1.fId 0 999) fun x5=>bif x5 then obind (d_impl_isSide fu x1.fW) fun Ad=>bif Ad then obind (d_impl_isSide fu x1.fH) fun Ac=>bif Ac then obind (d_impl_isSide fu x1.fD) fun Ae=>bif Ae then obind (d_impl_in fu x1.fGram 1 100000) fun Af=>bif Af then obind (d_impl_in fu x1.fClass 0 3) fun Aa=>bif Aa then obind (d_impl_in fu x1.fCount 1 6) fun Ab=>some (Ab) else some (false) else some (false) else some (false) else some (false) else some (false) else some (false)

def d_impl_BoundsOk_L1_B (fu:Nat)  (r1:Request) (k3:Int → Int → Option (Bool)) (Ab:Int) (Aa:Int):Option (Bool) :=
  bif (decide (Aa < ((r1.fItems.length:Int)))) then obind (ix r1.fItems Aa) fun Ac=>obind (d_impl_ItemOk fu Ac) fun Ad=>bif (!Ad) then some (false) else k3 (w64 (Ab + Ac.fCount)) (w64 (Aa + 1)) else some (decide (Ab ≤ 12))
def d_impl_BoundsOk_L1 (fu:Nat)  (r1:Request):Nat → Int → Int → Option (Bool)
  | 0=>fun _ _=>none
  | n + 1=>d_impl_BoundsOk_L1_B fu r1 (d_impl_BoundsOk_L1 fu r1 n)

def d_impl_BoundsOk_J1 (fu:Nat) (r1:Request)  : Option (Bool) :=
  d_impl_BoundsOk_L1 fu r1 fu 0 0

def d_impl_BoundsOk_J2 (fu:Nat) (r1:Request)  : Option (Bool) :=
  obind (d_slices_ContainsFunc_impl_Pair_impl_Pair fu r1.fPairs (fun Af=>d_impl_BoundsOk_1 fu Af)) fun Ae=>bif Ae then some (false) else obind (d_impl_in fu ((r1.fTypes.length:Int)) 1 5) fun Ad=>bif (!Ad) then some (false) else obind (d_slices_ContainsFunc_impl_Type_impl_Type fu r1.fTypes (fun Aa=>d_impl_BoundsOk_2 fu Aa)) fun Ab=>bif Ab then some (false) else obind (d_impl_in fu r1.fMaster 0 999) fun Ac=>bif (!Ac) then some (false) else bif (decide (((r1.fItems.length:Int)) > 8)) then some (false) else d_impl_BoundsOk_J1 fu r1

def d_impl_BoundsOk (fu:Nat) (r1:Request):Option (Bool) :=
  obind (d_impl_in fu r1.fWay 0 1) fun Aa=>bif (!Aa) then some (false) else obind (d_impl_PalletOk fu r1.fPallet) fun Ac=>bif (!Ac) then some (false) else obind (d_impl_in fu r1.fClasses 1 4) fun Ab=>bif (!Ab) then some (false) else bif (decide (((r1.fPairs.length:Int)) > 16)) then some (false) else d_impl_BoundsOk_J2 fu r1

def d_impl_namesOk_1 (fu:Nat) (q1:Typ) (x2:Typ):Option (Bool) :=
  some (q1.fId == x2.fId)

def d_impl_namesOk_2 (fu:Nat) (q1:Item) (x2:Item):Option (Bool) :=
  some (q1.fId == x2.fId)

def d_slices_IndexFunc_impl_Item_impl_Item_L1_B (fu:Nat)  (Ab:List Item) (f5:Item → Option Bool) (k1:Int → Option (Int)) (Aa:Int):Option (Int) :=
  bif (decide (Aa < ((Ab.length:Int)))) then obind (ix Ab Aa) fun Ad=>obind (f5 Ad) fun Ac=>bif Ac then some (Aa) else k1 (w64 (Aa + 1)) else some ((-1))
def d_slices_IndexFunc_impl_Item_impl_Item_L1 (fu:Nat)  (Aa:List Item) (f5:Item → Option Bool):Nat → Int → Option (Int)
  | 0=>fun _=>none
  | n + 1=>d_slices_IndexFunc_impl_Item_impl_Item_L1_B fu Aa f5 (d_slices_IndexFunc_impl_Item_impl_Item_L1 fu Aa f5 n)

def d_slices_IndexFunc_impl_Item_impl_Item (fu:Nat) (Aa:List Item) (f5:Item → Option Bool):Option (Int) :=
  d_slices_IndexFunc_impl_Item_impl_Item_L1 fu Aa f5 fu 0

def d_slices_ContainsFunc_impl_Item_impl_Item (fu:Nat) (Aa:List Item) (f5:Item → Option Bool):Option (Bool) :=
  obind (d_slices_IndexFunc_impl_Item_impl_Item fu Aa f5) fun Ab=>some (decide (Ab ≥ 0))

def d_impl_namesOk_3 (fu:Nat) (p1:Pair) (x2:Request):Option (Bool) :=
  bif (decide (p1.fA ≥ x2.fClasses)) then some (true) else some (decide (p1.fB ≥ x2.fClasses))

def d_impl_namesOk_J1 (fu:Nat) (k4:Int → Option (Bool)) (Aa:Int)  : Option (Bool) :=
  k4 (w64 (Aa + 1))

def d_impl_namesOk_L1_B (fu:Nat)  (r1:Request) (k4:Int → Option (Bool)) (Aa:Int):Option (Bool) :=
  bif (decide (Aa < ((r1.fItems.length:Int)))) then obind (ix r1.fItems Aa) fun Ab=>bif (decide (Ab.fClass ≥ r1.fClasses)) then some (false) else obind (sls r1.fItems 0 Aa) fun Ac=>obind (d_slices_ContainsFunc_impl_Item_impl_Item fu Ac (fun Ad=>d_impl_namesOk_2 fu Ad Ab)) fun Ah=>bif Ah then some (false) else d_impl_namesOk_J1 fu k4 Aa else obind (d_impl_MasterOf fu r1) fun Ag=>bif Ag.2 then obind (d_slices_ContainsFunc_impl_Pair_impl_Pair fu r1.fPairs (fun Af=>d_impl_namesOk_3 fu Af r1)) fun Ae=>some (!Ae) else some (false)
def d_impl_namesOk_L1 (fu:Nat)  (r1:Request):Nat → Int → Option (Bool)
  | 0=>fun _=>none
  | n + 1=>d_impl_namesOk_L1_B fu r1 (d_impl_namesOk_L1 fu r1 n)

def d_impl_namesOk_L2_B (fu:Nat)  (r1:Request) (k1:Int → Option (Bool)) (Aa:Int):Option (Bool) :=
  bif (decide (Aa < ((r1.fTypes.length:Int)))) then obind (ix r1.fTypes Aa) fun Ac=>obind (sls r1.fTypes 0 Aa) fun Ae=>obind (d_slices_ContainsFunc_impl_Type_impl_Type fu Ae (fun Ad=>d_impl_namesOk_1 fu Ad Ac)) fun Ab=>bif Ab then some (false) else k1 (w64 (Aa + 1)) else d_impl_namesOk_L1 fu r1 fu 0
def d_impl_namesOk_L2 (fu:Nat)  (r1:Request):Nat → Int → Option (Bool)
  | 0=>fun _=>none
  | n + 1=>d_impl_namesOk_L2_B fu r1 (d_impl_namesOk_L2 fu r1 n)

def d_impl_namesOk (fu:Nat) (r1:Request):Option (Bool) :=
  d_impl_namesOk_L2 fu r1 fu 0

def d_slices_Index_impl_Pair_impl_Pair_L1_B (fu:Nat)  (Ab:List Pair) (v5:Pair) (k1:Int → Option (Int)) (Aa:Int):Option (Int) :=
  bif (decide (Aa < ((Ab.length:Int)))) then obind (ix Ab Aa) fun Ac=>bif (decide (v5 = Ac)) then some (Aa) else k1 (w64 (Aa + 1)) else some ((-1))
def d_slices_Index_impl_Pair_impl_Pair_L1 (fu:Nat)  (Aa:List Pair) (v5:Pair):Nat → Int → Option (Int)
  | 0=>fun _=>none
  | n + 1=>d_slices_Index_impl_Pair_impl_Pair_L1_B fu Aa v5 (d_slices_Index_impl_Pair_impl_Pair_L1 fu Aa v5 n)

def d_slices_Index_impl_Pair_impl_Pair (fu:Nat) (Aa:List Pair) (v5:Pair):Option (Int) :=
  d_slices_Index_impl_Pair_impl_Pair_L1 fu Aa v5 fu 0

def d_slices_Contains_impl_Pair_impl_Pair (fu:Nat) (Aa:List Pair) (v5:Pair):Option (Bool) :=
  obind (d_slices_Index_impl_Pair_impl_Pair fu Aa v5) fun Ab=>some (decide (Ab ≥ 0))

def d_impl_Beside (fu:Nat) (Aa:List Pair) (a5:Int) (b6:Int):Option (Bool) :=
  obind (d_slices_Contains_impl_Pair_impl_Pair fu Aa ((⟨a5,b6⟩:Pair))) fun x7=>some (x7)

def d_impl_TableOk_L1_B (fu:Nat) (k3:Int → Option (Bool)) (Ac:List Pair) (Af:Int) (Ab:Int) (k4:Int → Option (Bool)) (Aa:Int):Option (Bool) :=
  bif (decide (Aa < Af)) then obind (d_impl_Beside fu Ac Ab Aa) fun Ae=>obind (d_impl_Beside fu Ac Aa Ab) fun Ad=>bif (!(Ae == Ad)) then some (false) else k4 (w64 (Aa + 1)) else k3 (w64 (Ab + 1))
def d_impl_TableOk_L1 (fu:Nat) (k3:Int → Option (Bool)) (Aa:List Pair) (Ac:Int) (Ab:Int):Nat → Int → Option (Bool)
  | 0=>fun _=>none
  | n + 1=>d_impl_TableOk_L1_B fu k3 Aa Ac Ab (d_impl_TableOk_L1 fu k3 Aa Ac Ab n)

def d_impl_TableOk_L2_B (fu:Nat)  (Ab:List Pair) (Ac:Int) (k3:Int → Option (Bool)) (Aa:Int):Option (Bool) :=
  bif (decide (Aa < Ac)) then obind (d_impl_Beside fu Ab Aa Aa) fun Ad=>bif (!Ad) then some (false) else d_impl_TableOk_L1 fu k3 Ab Ac Aa fu 0 else some (true)
def d_impl_TableOk_L2 (fu:Nat)  (Aa:List Pair) (Ab:Int):Nat → Int → Option (Bool)
  | 0=>fun _=>none
  | n + 1=>d_impl_TableOk_L2_B fu Aa Ab (d_impl_TableOk_L2 fu Aa Ab n)

def d_impl_TableOk (fu:Nat) (Ab:List Pair) (Aa:Int):Option (Bool) :=
  obind (d_impl_in fu Aa 1 4) fun x6=>bif (!x6) then some (false) else d_impl_TableOk_L2 fu Ab Aa fu 0

def d_slices_Sort_int_int (fu:Nat) (x1:List Int):Option (List Int):=sortI x1

def d_impl_Fits_J1 (fu:Nat) (x1:Item) (t2:Typ) (Ac:List Int) (Ah:List Int):Option (Bool) :=
  obind (d_slices_Sort_int_int fu Ac) fun Ab=>obind (d_slices_Sort_int_int fu Ah) fun Aa=>obind (ix Ab 0) fun Ag=>obind (ix Aa 0) fun Ai=>bif (decide (Ag ≤ Ai)) then obind (ix Ab 1) fun Ad=>obind (ix Aa 1) fun Af=>bif (decide (Ad ≤ Af)) then obind (ix Ab 2) fun Ae=>obind (ix Aa 2) fun Aj=>bif (decide (Ae ≤ Aj)) then some (decide (x1.fGram ≤ t2.fGram)) else some (false) else some (false) else some (false)

def d_impl_Fits (fu:Nat) (x1:Item) (t2:Typ):Option (Bool) :=
  d_impl_Fits_J1 fu x1 t2 (([x1.fW,x1.fH,x1.fD]:List Int)) (([t2.fW,t2.fH,t2.fD]:List Int))

def d_impl_Class_1 (fu:Nat) (x1:Item) (x2:Typ):Option (Bool) :=
  obind (d_impl_Fits fu x1 x2) fun x8=>some (!x8)

def d_impl_Class_2 (fu:Nat) (t1:Typ) (x2:Pallet):Option (Bool) :=
  bif (decide (t1.fW > x2.fW)) then some (true) else bif (decide (t1.fD > x2.fD)) then some (true) else bif (decide (t1.fH > x2.fH)) then some (true) else some (decide ((w64 (t1.fTare + t1.fGram)) > x2.fGram))

def d_impl_Class (fu:Nat) (r1:Request):Option (Int) :=
  obind (d_impl_MasterOf fu r1) fun Af=>obind (d_impl_BoundsOk fu r1) fun Aa=>bif (!Aa) then some (2) else obind (d_impl_namesOk fu r1) fun Ae=>bif (!Ae) then some (3) else obind (d_impl_TableOk fu r1.fPairs r1.fClasses) fun Ad=>bif (!Ad) then some (4) else obind (d_slices_ContainsFunc_impl_Item_impl_Item fu r1.fItems (fun Ag=>d_impl_Class_1 fu Ag Af.1)) fun Ac=>bif Ac then some (5) else obind (d_slices_ContainsFunc_impl_Type_impl_Type fu r1.fTypes (fun Ab=>d_impl_Class_2 fu Ab r1.fPallet)) fun Ah=>bif Ah then some (6) else some (0)

def d_impl_sound (fu:Nat) (r1:Request):Option (Bool) :=
  obind (d_impl_Class fu r1) fun Aa=>some (Aa == 0)

def d_bits_Mul64 (fu:Nat) (x1:Int) (y2:Int):Option (Int × Int) :=
  some (IntKind.wrap .u64 ((IntKind.wrap .u64 ((IntKind.wrap .u64 ((Int.fdiv x1 (2 ^ (min 32 (IntKind.bits .u64)))) * (Int.fdiv y2 (2 ^ (min 32 (IntKind.bits .u64)))))) + (Int.fdiv (IntKind.wrap .u64 ((IntKind.wrap .u64 ((Int.fdiv x1 (2 ^ (min 32 (IntKind.bits .u64)))) * (IntKind.wrap .u64 (((BitVec.ofInt (IntKind.bits .u64) y2 &&& BitVec.ofInt (IntKind.bits .u64) 4294967295).toNat:Nat):Int)))) + (Int.fdiv (IntKind.wrap .u64 ((IntKind.wrap .u64 (((BitVec.ofInt (IntKind.bits .u64) x1 &&& BitVec.ofInt (IntKind.bits .u64) 4294967295).toNat:Nat):Int)) * (IntKind.wrap .u64 (((BitVec.ofInt (IntKind.bits .u64) y2 &&& BitVec.ofInt (IntKind.bits .u64) 4294967295).toNat:Nat):Int)))) (2 ^ (min 32 (IntKind.bits .u64)))))) (2 ^ (min 32 (IntKind.bits .u64)))))) + (Int.fdiv (IntKind.wrap .u64 ((IntKind.wrap .u64 (((BitVec.ofInt (IntKind.bits .u64) (IntKind.wrap .u64 ((IntKind.wrap .u64 ((Int.fdiv x1 (2 ^ (min 32 (IntKind.bits .u64)))) * (IntKind.wrap .u64 (((BitVec.ofInt (IntKind.bits .u64) y2 &&& BitVec.ofInt (IntKind.bits .u64) 4294967295).toNat:Nat):Int)))) + (Int.fdiv (IntKind.wrap .u64 ((IntKind.wrap .u64 (((BitVec.ofInt (IntKind.bits .u64) x1 &&& BitVec.ofInt (IntKind.bits .u64) 4294967295).toNat:Nat):Int)) * (IntKind.wrap .u64 (((BitVec.ofInt (IntKind.bits .u64) y2 &&& BitVec.ofInt (IntKind.bits .u64) 4294967295).toNat:Nat):Int)))) (2 ^ (min 32 (IntKind.bits .u64)))))) &&& BitVec.ofInt (IntKind.bits .u64) 4294967295).toNat:Nat):Int)) + (IntKind.wrap .u64 ((IntKind.wrap .u64 (((BitVec.ofInt (IntKind.bits .u64) x1 &&& BitVec.ofInt (IntKind.bits .u64) 4294967295).toNat:Nat):Int)) * (Int.fdiv y2 (2 ^ (min 32 (IntKind.bits .u64)))))))) (2 ^ (min 32 (IntKind.bits .u64))))),IntKind.wrap .u64 (x1 * y2))

def d_bits_Mul (fu:Nat) (x1:Int) (y2:Int):Option (Int × Int) :=
  obind (d_bits_Mul64 fu x1 y2) fun x3=>some (x3.1,x3.2)

def d_slices_Repeat_int_int_L1_B (fu:Nat)   (k3:List Int → Int → Option ((List Int))) (Aa:List Int) (Ab:Int):Option ((List Int)) :=
  bif (decide (Ab < ((Aa.length:Int)))) then obind (sls Aa Ab (Aa.length:Int)) fun Ad=>obind (sls Aa 0 Ab) fun Ac=>k3 (cpd Aa Ab Ac) (w64 (Ab + (cpn Aa Ab Ac))) else some (Aa)
def d_slices_Repeat_int_int_L1 (fu:Nat)   : Nat → List Int → Int → Option ((List Int))
  | 0=>fun _ _=>none
  | n + 1=>d_slices_Repeat_int_int_L1_B fu  (d_slices_Repeat_int_int_L1 fu  n)

def d_slices_Repeat_int_int_J1 (fu:Nat) (x1:List Int) (x8:Int × Int)  : Option ((List Int)) :=
  obind (mk 8 (0:Int) (w64 x8.2)) fun Aa=>d_slices_Repeat_int_int_L1 fu fu (cpd Aa 0 x1) (cpn Aa 0 x1)

def d_slices_Repeat_int_int_J2 (fu:Nat) (x1:List Int) (Aa:Int)  : Option ((List Int)) :=
  obind (d_bits_Mul fu (IntKind.wrap .u64 ((x1.length:Int))) (IntKind.wrap .u64 Aa)) fun x8=>bif (decide (x8.1 > 0)) then none else bif (decide (x8.2 > 9223372036854775807)) then none else d_slices_Repeat_int_int_J1 fu x1 x8

def d_slices_Repeat_int_int (fu:Nat) (x1:List Int) (Aa:Int):Option ((List Int)) :=
  bif (decide (Aa < 0)) then none else d_slices_Repeat_int_int_J2 fu x1 Aa

def d_impl_Units_L1_B (fu:Nat)  (r1:Request) (k1:List Int → Int → Option ((List Int))) (Ab:List Int) (Aa:Int):Option ((List Int)) :=
  bif (decide (Aa < ((r1.fItems.length:Int)))) then obind (ix r1.fItems Aa) fun Ae=>obind (d_slices_Repeat_int_int fu (([Aa]:List Int)) Ae.fCount) fun Ad=>obind (apnd 8 Ab Ad) fun Ac=>k1 Ac (w64 (Aa + 1)) else some (Ab)
def d_impl_Units_L1 (fu:Nat)  (r1:Request):Nat → List Int → Int → Option ((List Int))
  | 0=>fun _ _=>none
  | n + 1=>d_impl_Units_L1_B fu r1 (d_impl_Units_L1 fu r1 n)

def d_impl_Units (fu:Nat) (r1:Request):Option ((List Int)) :=
  obind (d_impl_sound fu r1) fun Aa=>bif (!Aa) then some (([]:List Int)) else d_impl_Units_L1 fu r1 fu (([]:List Int)) 0

def d_impl_places_L1_B (fu:Nat)  (n1:Int) (k1:List Int → Int → Option ((List Int))) (Ab:List Int) (Aa:Int):Option ((List Int)) :=
  bif (decide (Aa < n1)) then obind (apnd 8 Ab (([Aa]:List Int))) fun Ac=>k1 Ac (w64 (Aa + 1)) else some (Ab)
def d_impl_places_L1 (fu:Nat)  (n1:Int):Nat → List Int → Int → Option ((List Int))
  | 0=>fun _ _=>none
  | n + 1=>d_impl_places_L1_B fu n1 (d_impl_places_L1 fu n1 n)

def d_impl_places (fu:Nat) (n1:Int):Option ((List Int)) :=
  d_impl_places_L1 fu n1 fu (([]:List Int)) 0

def d_impl_itemsOf_J1 (fu:Nat) (k3:List Item → Int → Option ((List Item))) (Aa:Int) (Ab:List Item):Option ((List Item)) :=
  k3 Ab (w64 (Aa + 1))

def d_impl_itemsOf_L1_B (fu:Nat)  (r1:Request) (Ad:List Int) (Ae:(List Int)) (k3:List Item → Int → Option ((List Item))) (Ab:List Item) (Aa:Int):Option ((List Item)) :=
  bif (decide (Aa < ((Ad.length:Int)))) then obind (ix Ad Aa) fun Ac=>obind (d_impl_in fu Ac 0 (w64 (((Ae.length:Int)) - 1))) fun Af=>bif Af then obind (ix Ae Ac) fun Ah=>obind (ix r1.fItems Ah) fun Ai=>obind (apnd 56 Ab (([Ai]:List Item))) fun Ag=>d_impl_itemsOf_J1 fu k3 Aa Ag else d_impl_itemsOf_J1 fu k3 Aa Ab else some (Ab)
def d_impl_itemsOf_L1 (fu:Nat)  (r1:Request) (Aa:List Int) (Ab:(List Int)):Nat → List Item → Int → Option ((List Item))
  | 0=>fun _ _=>none
  | n + 1=>d_impl_itemsOf_L1_B fu r1 Aa Ab (d_impl_itemsOf_L1 fu r1 Aa Ab n)

def d_impl_itemsOf (fu:Nat) (r1:Request) (Aa:List Int):Option ((List Item)) :=
  obind (d_impl_Units fu r1) fun Ab=>d_impl_itemsOf_L1 fu r1 Aa Ab fu (([]:List Item)) 0

def d_impl_Volume_J1 (fu:Nat) (Aa:Int) (h2:Int) (d3:Int)  : Option (Int) :=
  some (w64 ((w64 (Aa * h2)) * d3))

def d_impl_Volume (fu:Nat) (Aa:Int) (h2:Int) (d3:Int):Option (Int) :=
  obind (d_impl_in fu Aa 0 2000) fun Ab=>bif (!Ab) then some (0) else obind (d_impl_in fu h2 0 2000) fun Ad=>bif (!Ad) then some (0) else obind (d_impl_in fu d3 0 2000) fun Ac=>bif (!Ac) then some (0) else d_impl_Volume_J1 fu Aa h2 d3

def d_impl_VolumeOf_L1_B (fu:Nat)  (Ad:(List Item)) (k1:Int → Int → Option (Int)) (Ac:Int) (Ab:Int):Option (Int) :=
  bif (decide (Ab < ((Ad.length:Int)))) then obind (ix Ad Ab) fun Aa=>obind (d_impl_Volume fu Aa.fW Aa.fH Aa.fD) fun Ae=>k1 (w64 (Ac + Ae)) (w64 (Ab + 1)) else some (Ac)
def d_impl_VolumeOf_L1 (fu:Nat)  (Aa:(List Item)):Nat → Int → Int → Option (Int)
  | 0=>fun _ _=>none
  | n + 1=>d_impl_VolumeOf_L1_B fu Aa (d_impl_VolumeOf_L1 fu Aa n)

def d_impl_VolumeOf (fu:Nat) (r1:Request) (Aa:List Int):Option (Int) :=
  obind (d_impl_itemsOf fu r1 Aa) fun Ab=>d_impl_VolumeOf_L1 fu Ab fu 0 0

def d_impl_GramOf_L1_B (fu:Nat)  (Ab:(List Item)) (k1:Int → Int → Option (Int)) (Ac:Int) (Aa:Int):Option (Int) :=
  bif (decide (Aa < ((Ab.length:Int)))) then obind (ix Ab Aa) fun Ad=>k1 (w64 (Ac + Ad.fGram)) (w64 (Aa + 1)) else some (Ac)
def d_impl_GramOf_L1 (fu:Nat)  (Aa:(List Item)):Nat → Int → Int → Option (Int)
  | 0=>fun _ _=>none
  | n + 1=>d_impl_GramOf_L1_B fu Aa (d_impl_GramOf_L1 fu Aa n)

def d_impl_GramOf (fu:Nat) (r1:Request) (Aa:List Int):Option (Int) :=
  obind (d_impl_itemsOf fu r1 Aa) fun Ab=>d_impl_GramOf_L1 fu Ab fu 0 0

def d_impl_within (fu:Nat) (r1:Request) (Aa:List Int) (t9:Typ):Option (Bool) :=
  obind (d_impl_VolumeOf fu r1 Aa) fun Ac=>obind (d_impl_Volume fu t9.fW t9.fH t9.fD) fun Ab=>bif (decide (Ac ≤ Ab)) then obind (d_impl_GramOf fu r1 Aa) fun Ad=>some (decide (Ad ≤ t9.fGram)) else some (false)

def d_slices_Clone_int_int (fu:Nat) (Aa:List Int):Option ((List Int)) :=
  obind (apnd 8 (([]:List Int)) Aa) fun Ab=>some (Ab)

def d_impl_thereOf_1 (fu:Nat) (u1:Int) (x2:Int):Option (Bool) :=
  obind (d_impl_in fu u1 0 (w64 (x2 - 1))) fun x5=>some (!x5)

def d_slices_IndexFunc_int_int_L1_B (fu:Nat)  (Ab:List Int) (f5:Int → Option Bool) (k1:Int → Option (Int)) (Aa:Int):Option (Int) :=
  bif (decide (Aa < ((Ab.length:Int)))) then obind (ix Ab Aa) fun Ad=>obind (f5 Ad) fun Ac=>bif Ac then some (Aa) else k1 (w64 (Aa + 1)) else some ((-1))
def d_slices_IndexFunc_int_int_L1 (fu:Nat)  (Aa:List Int) (f5:Int → Option Bool):Nat → Int → Option (Int)
  | 0=>fun _=>none
  | n + 1=>d_slices_IndexFunc_int_int_L1_B fu Aa f5 (d_slices_IndexFunc_int_int_L1 fu Aa f5 n)

def d_slices_IndexFunc_int_int (fu:Nat) (Aa:List Int) (f5:Int → Option Bool):Option (Int) :=
  d_slices_IndexFunc_int_int_L1 fu Aa f5 fu 0

def d_slices_DeleteFunc_int_int_J1 (fu:Nat) (k3:List Int → Int → Int → Option ((List Int))) (Aa:Int) (Ac:List Int) (Ab:Int):Option ((List Int)) :=
  k3 Ac Ab (w64 (Aa + 1))

def d_slices_DeleteFunc_int_int_L1_B (fu:Nat)  (f5:Int → Option Bool) (k3:List Int → Int → Int → Option ((List Int))) (Aa:List Int) (Ab:Int) (Ac:Int):Option ((List Int)) :=
  bif (decide (Ac < ((Aa.length:Int)))) then obind (ix Aa Ac) fun Ad=>obind (f5 Ad) fun Af=>bif (!Af) then obind (ix Aa Ab) fun Ag=>d_slices_DeleteFunc_int_int_J1 fu k3 Ac (setx Aa Ab Ad) (w64 (Ab + 1)) else d_slices_DeleteFunc_int_int_J1 fu k3 Ac Aa Ab else obind (sls Aa Ab (Aa.length:Int)) fun Ah=>obind (sls (clrd Aa Ab) 0 Ab) fun Ae=>some (Ae)
def d_slices_DeleteFunc_int_int_L1 (fu:Nat)  (f5:Int → Option Bool):Nat → List Int → Int → Int → Option ((List Int))
  | 0=>fun _ _ _=>none
  | n + 1=>d_slices_DeleteFunc_int_int_L1_B fu f5 (d_slices_DeleteFunc_int_int_L1 fu f5 n)

def d_slices_DeleteFunc_int_int (fu:Nat) (Aa:List Int) (f5:Int → Option Bool):Option ((List Int)) :=
  obind (d_slices_IndexFunc_int_int fu Aa f5) fun Ab=>bif (Ab == ((-1))) then some (Aa) else d_slices_DeleteFunc_int_int_L1 fu f5 fu Aa Ab (w64 (Ab + 1))

def d_impl_thereOf (fu:Nat) (r1:Request) (Ac:List Int):Option ((List Int)) :=
  obind (d_impl_Units fu r1) fun Ae=>obind (d_slices_Clone_int_int fu Ac) fun Ad=>obind (d_slices_DeleteFunc_int_int fu Ad (fun Aa=>d_impl_thereOf_1 fu Aa ((Ae.length:Int)))) fun Ab=>some (Ab)

def d_slices_Equal_int_int_L1_B (fu:Nat)  (Ab:List Int) (Ac:List Int) (k1:Int → Option (Bool)) (Aa:Int):Option (Bool) :=
  bif (decide (Aa < ((Ab.length:Int)))) then obind (ix Ab Aa) fun Ae=>obind (ix Ac Aa) fun Ad=>bif (Ae != Ad) then some (false) else k1 (w64 (Aa + 1)) else some (true)
def d_slices_Equal_int_int_L1 (fu:Nat)  (Aa:List Int) (Ab:List Int):Nat → Int → Option (Bool)
  | 0=>fun _=>none
  | n + 1=>d_slices_Equal_int_int_L1_B fu Aa Ab (d_slices_Equal_int_int_L1 fu Aa Ab n)

def d_slices_Equal_int_int (fu:Nat) (Aa:List Int) (Ab:List Int):Option (Bool) :=
  bif (((Aa.length:Int)) != ((Ab.length:Int))) then some (false) else d_slices_Equal_int_int_L1 fu Aa Ab fu 0

def d_impl_IsPacking_J1 (fu:Nat) (k7:List Int → Int → Option (Bool)) (Ab:Int) (Aa:List Int):Option (Bool) :=
  k7 Aa (w64 (Ab + 1))

def d_impl_IsPacking_J2 (fu:Nat) (k7:List Int → Int → Option (Bool)) (Ab:List Int) (Ac:Int) (Aa:List Int)  : Option (Bool) :=
  obind (apnd 8 Ab Aa) fun Ad=>d_impl_IsPacking_J1 fu k7 Ac Ad

def d_impl_IsPacking_L1_B (fu:Nat)  (r1:Request) (Aj:List Int) (Ac:List (List Int)) (Ah:Typ × Bool) (k7:List Int → Int → Option (Bool)) (Ad:List Int) (Ab:Int):Option (Bool) :=
  bif (decide (Ab < ((Ac.length:Int)))) then obind (ix Ac Ab) fun Aa=>bif (((Aa.length:Int)) == 0) then some (false) else obind (d_impl_within fu r1 Aa Ah.1) fun Ai=>bif (!Ai) then some (false) else d_impl_IsPacking_J2 fu k7 Ad Ab Aa else obind (d_impl_thereOf fu r1 Aj) fun Ae=>obind (d_slices_Sort_int_int fu Ad) fun Af=>obind (d_slices_Sort_int_int fu Ae) fun Ag=>obind (d_slices_Equal_int_int fu Af Ag) fun Ak=>some (Ak)
def d_impl_IsPacking_L1 (fu:Nat)  (r1:Request) (Ab:List Int) (Ac:List (List Int)) (Aa:Typ × Bool):Nat → List Int → Int → Option (Bool)
  | 0=>fun _ _=>none
  | n + 1=>d_impl_IsPacking_L1_B fu r1 Ab Ac Aa (d_impl_IsPacking_L1 fu r1 Ab Ac Aa n)

def d_impl_IsPacking (fu:Nat) (r1:Request) (Ab:List Int) (Ac:List (List Int)):Option (Bool) :=
  obind (d_impl_sound fu r1) fun Ad=>bif (!Ad) then some (false) else obind (d_impl_MasterOf fu r1) fun Aa=>d_impl_IsPacking_L1 fu r1 Ab Ac Aa fu (([]:List Int)) 0

def d_impl_mutual (fu:Nat) (Aa:List Pair) (a5:Int) (b6:Int):Option (Bool) :=
  obind (d_impl_Beside fu Aa a5 b6) fun x7=>bif x7 then obind (d_impl_Beside fu Aa b6 a5) fun Ab=>some (Ab) else some (false)

def d_impl_mayLie_1_1 (fu:Nat) (y1:Item) (x2:Request) (Ab:Item):Option (Bool) :=
  obind (d_impl_mutual fu x2.fPairs Ab.fClass y1.fClass) fun Aa=>some (!Aa)

def d_impl_mayLie_1 (fu:Nat) (x1:Item) (x2:List Item) (x8:Request):Option (Bool) :=
  obind (d_slices_ContainsFunc_impl_Item_impl_Item fu x2 (fun Ab=>d_impl_mayLie_1_1 fu Ab x8 x1)) fun Aa=>some (Aa)

def d_impl_mayLie (fu:Nat) (r1:Request) (Ad:List Int) (u9:Int):Option (Bool) :=
  obind (d_impl_itemsOf fu r1 (([u9]:List Int))) fun Ae=>obind (d_impl_itemsOf fu r1 Ad) fun Ab=>obind (d_slices_ContainsFunc_impl_Item_impl_Item fu Ab (fun Ac=>d_impl_mayLie_1 fu Ac Ae r1)) fun Aa=>some (!Aa)

def d_impl_IsRival_1_1 (fu:Nat) (u1:Int) (x2:Request) (Ab:List Int):Option (Bool) :=
  obind (d_impl_mayLie fu x2 Ab u1) fun Aa=>some (!Aa)

def d_slices_ContainsFunc_int_int (fu:Nat) (Aa:List Int) (f5:Int → Option Bool):Option (Bool) :=
  obind (d_slices_IndexFunc_int_int fu Aa f5) fun Ab=>some (decide (Ab ≥ 0))

def d_impl_IsRival_1 (fu:Nat) (l1:List Int) (x5:Request):Option (Bool) :=
  obind (d_slices_ContainsFunc_int_int fu l1 (fun Aa=>d_impl_IsRival_1_1 fu Aa x5 l1)) fun Ab=>some (Ab)

def d_slices_IndexFunc_ints_int_L1_B (fu:Nat)  (Ab:List (List Int)) (f5:(List Int) → Option Bool) (k1:Int → Option (Int)) (Aa:Int):Option (Int) :=
  bif (decide (Aa < ((Ab.length:Int)))) then obind (ix Ab Aa) fun Ac=>obind (f5 Ac) fun Ad=>bif Ad then some (Aa) else k1 (w64 (Aa + 1)) else some ((-1))
def d_slices_IndexFunc_ints_int_L1 (fu:Nat)  (Aa:List (List Int)) (f5:(List Int) → Option Bool):Nat → Int → Option (Int)
  | 0=>fun _=>none
  | n + 1=>d_slices_IndexFunc_ints_int_L1_B fu Aa f5 (d_slices_IndexFunc_ints_int_L1 fu Aa f5 n)

def d_slices_IndexFunc_ints_int (fu:Nat) (Aa:List (List Int)) (f5:(List Int) → Option Bool):Option (Int) :=
  d_slices_IndexFunc_ints_int_L1 fu Aa f5 fu 0

def d_slices_ContainsFunc_ints_int (fu:Nat) (Aa:List (List Int)) (f5:(List Int) → Option Bool):Option (Bool) :=
  obind (d_slices_IndexFunc_ints_int fu Aa f5) fun Ab=>some (decide (Ab ≥ 0))

def d_impl_IsRival (fu:Nat) (r1:Request) (Aa:List (List Int)):Option (Bool) :=
  obind (d_impl_Units fu r1) fun Ad=>obind (d_impl_places fu ((Ad.length:Int))) fun Ab=>obind (d_impl_IsPacking fu r1 Ab Aa) fun Ac=>bif (!Ac) then some (false) else obind (d_slices_ContainsFunc_ints_int fu Aa (fun Af=>d_impl_IsRival_1 fu Af r1)) fun Ae=>some (!Ae)

def d_impl_cloneLists_L1_B (fu:Nat)  (l1:List (List Int)) (k1:List (List Int) → Int → Option ((List (List Int)))) (Ab:List (List Int)) (Aa:Int):Option ((List (List Int))) :=
  bif (decide (Aa < ((l1.length:Int)))) then obind (ix l1 Aa) fun Ad=>obind (d_slices_Clone_int_int fu Ad) fun Ae=>obind (apnd 24 Ab [Ae]) fun Ac=>k1 Ac (w64 (Aa + 1)) else some (Ab)
def d_impl_cloneLists_L1 (fu:Nat)  (l1:List (List Int)):Nat → List (List Int) → Int → Option ((List (List Int)))
  | 0=>fun _ _=>none
  | n + 1=>d_impl_cloneLists_L1_B fu l1 (d_impl_cloneLists_L1 fu l1 n)

def d_impl_cloneLists (fu:Nat) (l1:List (List Int)):Option ((List (List Int))) :=
  d_impl_cloneLists_L1 fu l1 fu (([]:List (List Int))) 0

def d_impl_Room (fu:Nat) (r1:Request) (Ac:List Int) (u9:Int):Option (Bool) :=
  obind (d_impl_MasterOf fu r1) fun Ab=>obind (d_impl_sound fu r1) fun Aa=>bif Aa then obind (d_slices_Clone_int_int fu Ac) fun Ad=>obind (apnd 8 Ad (([u9]:List Int))) fun Ae=>obind (d_impl_within fu r1 Ae Ab.1) fun Af=>some (Af) else some (false)

def d_slices_Delete_ints_int (fu:Nat) (x1:List (List Int)) (x2:Int) (x3:Int):Option (List (List Int)):=delI x1 x2 x3

def d_impl_without_J1 (fu:Nat) (Ab:List (List Int) → Int → Option ((List (List Int)) × Bool)) (Ac:Int) (Aa:List (List Int)):Option ((List (List Int)) × Bool) :=
  Ab Aa (w64 (Ac + 1))

def d_impl_without_J2 (fu:Nat) (Ah:List (List Int) → Int → Option ((List (List Int)) × Bool)) (Af:List (List Int)) (Ab:List (List Int)) (Ac:Int) (Ag:Int) (Aa:Int):Option ((List (List Int)) × Bool) :=
  bif (decide (Aa < 0)) then some (Af,false) else obind (ix Ab Aa) fun Ae=>obind (apnd 8 Ae (([Ag]:List Int))) fun Ad=>obind (ix Ab Aa) fun Ai=>d_impl_without_J1 fu Ah Ac (setx Ab Aa Ad)

def d_impl_without_J3 (fu:Nat) (Ab:Int → Option ((List (List Int)) × Bool)) (Aa:Int)  : Option ((List (List Int)) × Bool) :=
  Ab (w64 (Aa + 1))

def d_impl_without_L1_B (fu:Nat) (Ah:List (List Int) → Int → Option ((List (List Int)) × Bool)) (r1:Request) (Af:List (List Int)) (Aj:Int) (Ab:List (List Int)) (Ae:Int) (Ac:Int) (Ad:Int → Option ((List (List Int)) × Bool)) (Aa:Int):Option ((List (List Int)) × Bool) :=
  bif (decide (Aa < ((Ab.length:Int)))) then obind (ix Ab Aa) fun Ag=>bif (Aa != Aj) then obind (d_impl_Room fu r1 Ag Ac) fun Ai=>bif Ai then obind (d_impl_mayLie fu r1 Ag Ac) fun Ak=>bif Ak then d_impl_without_J2 fu Ah Af Ab Ae Ac Aa else d_impl_without_J3 fu Ad Aa else d_impl_without_J3 fu Ad Aa else d_impl_without_J3 fu Ad Aa else d_impl_without_J2 fu Ah Af Ab Ae Ac ((-1))
def d_impl_without_L1 (fu:Nat) (Af:List (List Int) → Int → Option ((List (List Int)) × Bool)) (r1:Request) (Ad:List (List Int)) (Ac:Int) (Aa:List (List Int)) (Ab:Int) (Ae:Int):Nat → Int → Option ((List (List Int)) × Bool)
  | 0=>fun _=>none
  | n + 1=>d_impl_without_L1_B fu Af r1 Ad Ac Aa Ab Ae (d_impl_without_L1 fu Af r1 Ad Ac Aa Ab Ae n)

def d_impl_without_L2_B (fu:Nat)  (r1:Request) (Af:List (List Int)) (Ab:Int) (Ad:List Int) (Ah:List (List Int) → Int → Option ((List (List Int)) × Bool)) (Ac:List (List Int)) (Aa:Int):Option ((List (List Int)) × Bool) :=
  bif (decide (Aa < ((Ad.length:Int)))) then obind (ix Ad Aa) fun Ag=>d_impl_without_L1 fu Ah r1 Af Ab Ac Aa Ag fu 0 else obind (d_slices_Delete_ints_int fu Ac Ab (w64 (Ab + 1))) fun Ae=>some (Ae,true)
def d_impl_without_L2 (fu:Nat)  (r1:Request) (Aa:List (List Int)) (Ac:Int) (Ab:List Int):Nat → List (List Int) → Int → Option ((List (List Int)) × Bool)
  | 0=>fun _ _=>none
  | n + 1=>d_impl_without_L2_B fu r1 Aa Ac Ab (d_impl_without_L2 fu r1 Aa Ac Ab n)

def d_impl_without (fu:Nat) (r1:Request) (Aa:List (List Int)) (Ab:Int):Option ((List (List Int)) × Bool) :=
  obind (d_impl_cloneLists fu Aa) fun Ad=>obind (ix Aa Ab) fun Ac=>d_impl_without_L2 fu r1 Aa Ab Ac fu Ad 0

def d_impl_Squeeze_L1_B (fu:Nat)  (r1:Request) (k1:List (List Int) → Int → Option ((List (List Int)))) (Ab:List (List Int)) (Aa:Int):Option ((List (List Int))) :=
  bif (decide (Aa ≥ 0)) then obind (d_impl_without fu r1 Ab Aa) fun Ac=>k1 Ac.1 (w64 (Aa - 1)) else some (Ab)
def d_impl_Squeeze_L1 (fu:Nat)  (r1:Request):Nat → List (List Int) → Int → Option ((List (List Int)))
  | 0=>fun _ _=>none
  | n + 1=>d_impl_Squeeze_L1_B fu r1 (d_impl_Squeeze_L1 fu r1 n)

def d_impl_Squeeze (fu:Nat) (r1:Request) (Aa:List (List Int)):Option ((List (List Int))) :=
  obind (d_impl_IsRival fu r1 Aa) fun Ac=>bif (!Ac) then some (([]:List (List Int))) else obind (d_impl_cloneLists fu Aa) fun Ab=>d_impl_Squeeze_L1 fu r1 fu Ab (w64 (((Aa.length:Int)) - 1))

def d_laws_eqIntS_L1_B (fu:Nat)  (a1:List Int) (b5:List Int) (k1:Int → Option (Bool)) (Aa:Int):Option (Bool) :=
  bif (decide (Aa < ((a1.length:Int)))) then obind (ix a1 Aa) fun Ac=>obind (ix b5 Aa) fun Ab=>bif (Ac != Ab) then some (false) else k1 (w64 (Aa + 1)) else some (true)
def d_laws_eqIntS_L1 (fu:Nat)  (a1:List Int) (b5:List Int):Nat → Int → Option (Bool)
  | 0=>fun _=>none
  | n + 1=>d_laws_eqIntS_L1_B fu a1 b5 (d_laws_eqIntS_L1 fu a1 b5 n)

def d_laws_eqIntS (fu:Nat) (a1:List Int) (b5:List Int):Option (Bool) :=
  bif (((a1.length:Int)) != ((b5.length:Int))) then some (false) else d_laws_eqIntS_L1 fu a1 b5 fu 0

def d_laws_eqIntSS_L1_B (fu:Nat)  (a1:List (List Int)) (b5:List (List Int)) (k1:Int → Option (Bool)) (Aa:Int):Option (Bool) :=
  bif (decide (Aa < ((a1.length:Int)))) then obind (ix a1 Aa) fun Ad=>obind (ix b5 Aa) fun Ac=>obind (d_laws_eqIntS fu Ad Ac) fun Ab=>bif (!Ab) then some (false) else k1 (w64 (Aa + 1)) else some (true)
def d_laws_eqIntSS_L1 (fu:Nat)  (a1:List (List Int)) (b5:List (List Int)):Nat → Int → Option (Bool)
  | 0=>fun _=>none
  | n + 1=>d_laws_eqIntSS_L1_B fu a1 b5 (d_laws_eqIntSS_L1 fu a1 b5 n)

def d_laws_eqIntSS (fu:Nat) (a1:List (List Int)) (b5:List (List Int)):Option (Bool) :=
  bif (((a1.length:Int)) != ((b5.length:Int))) then some (false) else d_laws_eqIntSS_L1 fu a1 b5 fu 0

def d_laws_eqPallet (fu:Nat) (a1:Pallet) (b2:Pallet):Option (Bool) :=
  bif (a1.fW != b2.fW) then some (false) else bif (a1.fD != b2.fD) then some (false) else bif (a1.fH != b2.fH) then some (false) else bif (a1.fGram != b2.fGram) then some (false) else some (true)

def d_laws_eqPair (fu:Nat) (a1:Pair) (b2:Pair):Option (Bool) :=
  bif (a1.fA != b2.fA) then some (false) else bif (a1.fB != b2.fB) then some (false) else some (true)

def d_laws_eqPairS_L1_B (fu:Nat)  (a1:List Pair) (b5:List Pair) (k1:Int → Option (Bool)) (Aa:Int):Option (Bool) :=
  bif (decide (Aa < ((a1.length:Int)))) then obind (ix a1 Aa) fun Ac=>obind (ix b5 Aa) fun Ab=>obind (d_laws_eqPair fu Ac Ab) fun Ad=>bif (!Ad) then some (false) else k1 (w64 (Aa + 1)) else some (true)
def d_laws_eqPairS_L1 (fu:Nat)  (a1:List Pair) (b5:List Pair):Nat → Int → Option (Bool)
  | 0=>fun _=>none
  | n + 1=>d_laws_eqPairS_L1_B fu a1 b5 (d_laws_eqPairS_L1 fu a1 b5 n)

def d_laws_eqPairS (fu:Nat) (a1:List Pair) (b5:List Pair):Option (Bool) :=
  bif (((a1.length:Int)) != ((b5.length:Int))) then some (false) else d_laws_eqPairS_L1 fu a1 b5 fu 0

def d_laws_eqType (fu:Nat) (a1:Typ) (b2:Typ):Option (Bool) :=
  bif (a1.fId != b2.fId) then some (false) else bif (a1.fW != b2.fW) then some (false) else bif (a1.fH != b2.fH) then some (false) else bif (a1.fD != b2.fD) then some (false) else bif (a1.fTare != b2.fTare) then some (false) else bif (a1.fGram != b2.fGram) then some (false) else bif (a1.fCost != b2.fCost) then some (false) else some (true)

def d_laws_eqTypeS_L1_B (fu:Nat)  (a1:List Typ) (b5:List Typ) (k1:Int → Option (Bool)) (Aa:Int):Option (Bool) :=
  bif (decide (Aa < ((a1.length:Int)))) then obind (ix a1 Aa) fun Ac=>obind (ix b5 Aa) fun Ab=>obind (d_laws_eqType fu Ac Ab) fun Ad=>bif (!Ad) then some (false) else k1 (w64 (Aa + 1)) else some (true)
def d_laws_eqTypeS_L1 (fu:Nat)  (a1:List Typ) (b5:List Typ):Nat → Int → Option (Bool)
  | 0=>fun _=>none
  | n + 1=>d_laws_eqTypeS_L1_B fu a1 b5 (d_laws_eqTypeS_L1 fu a1 b5 n)

def d_laws_eqTypeS (fu:Nat) (a1:List Typ) (b5:List Typ):Option (Bool) :=
  bif (((a1.length:Int)) != ((b5.length:Int))) then some (false) else d_laws_eqTypeS_L1 fu a1 b5 fu 0

def d_laws_eqItem (fu:Nat) (a1:Item) (b2:Item):Option (Bool) :=
  bif (a1.fId != b2.fId) then some (false) else bif (a1.fW != b2.fW) then some (false) else bif (a1.fH != b2.fH) then some (false) else bif (a1.fD != b2.fD) then some (false) else bif (a1.fGram != b2.fGram) then some (false) else bif (a1.fClass != b2.fClass) then some (false) else bif (a1.fCount != b2.fCount) then some (false) else some (true)

def d_laws_eqItemS_L1_B (fu:Nat)  (a1:List Item) (b5:List Item) (k1:Int → Option (Bool)) (Aa:Int):Option (Bool) :=
  bif (decide (Aa < ((a1.length:Int)))) then obind (ix a1 Aa) fun Ac=>obind (ix b5 Aa) fun Ab=>obind (d_laws_eqItem fu Ac Ab) fun Ad=>bif (!Ad) then some (false) else k1 (w64 (Aa + 1)) else some (true)
def d_laws_eqItemS_L1 (fu:Nat)  (a1:List Item) (b5:List Item):Nat → Int → Option (Bool)
  | 0=>fun _=>none
  | n + 1=>d_laws_eqItemS_L1_B fu a1 b5 (d_laws_eqItemS_L1 fu a1 b5 n)

def d_laws_eqItemS (fu:Nat) (a1:List Item) (b5:List Item):Option (Bool) :=
  bif (((a1.length:Int)) != ((b5.length:Int))) then some (false) else d_laws_eqItemS_L1 fu a1 b5 fu 0

def d_laws_eqRequest (fu:Nat) (a1:Request) (b5:Request):Option (Bool) :=
  bif (a1.fWay != b5.fWay) then some (false) else obind (d_laws_eqPallet fu a1.fPallet b5.fPallet) fun Aa=>bif (!Aa) then some (false) else bif (a1.fClasses != b5.fClasses) then some (false) else obind (d_laws_eqPairS fu a1.fPairs b5.fPairs) fun Ac=>bif (!Ac) then some (false) else obind (d_laws_eqTypeS fu a1.fTypes b5.fTypes) fun Ab=>bif (!Ab) then some (false) else bif (a1.fMaster != b5.fMaster) then some (false) else obind (d_laws_eqItemS fu a1.fItems b5.fItems) fun Ad=>bif (!Ad) then some (false) else some (true)

end Go.Proofs.YtkkfmjpbiimkbaaGreat
