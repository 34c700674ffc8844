/- FnExactFeasible: what the functions that it reaches compute,on plain data. Printed by gen.py. -/
import Derived.Test.YtkkfmjpbiimkbaaGreatS13
import Derived.Test.YtkkfmjpbiimkbaaGreatS15
set_option linter.unusedVariables false
namespace Go.Proofs.YtkkfmjpbiimkbaaGreat
open Go
def d_laws_szPairS (fu:Nat) (a1:List Pair) (Aa:Int):Option (Int) :=
  bif (decide ((w64 (Aa - ((a1.length:Int)))) < 0)) then some ((-1)) else some (w64 (Aa - ((a1.length:Int))))

def d_laws_szTypeS (fu:Nat) (a1:List Typ) (Aa:Int):Option (Int) :=
  bif (decide ((w64 (Aa - ((a1.length:Int)))) < 0)) then some ((-1)) else some (w64 (Aa - ((a1.length:Int))))

def d_laws_szItemS (fu:Nat) (a1:List Item) (Aa:Int):Option (Int) :=
  bif (decide ((w64 (Aa - ((a1.length:Int)))) < 0)) then some ((-1)) else some (w64 (Aa - ((a1.length:Int))))

def d_laws_szRequest (fu:Nat) (a1:Request) (Ad:Int):Option (Int) :=
  obind (d_laws_szPairS fu a1.fPairs Ad) fun Aa=>bif (decide (Aa < 0)) then some ((-1)) else obind (d_laws_szTypeS fu a1.fTypes Aa) fun Ab=>bif (decide (Ab < 0)) then some ((-1)) else obind (d_laws_szItemS fu a1.fItems Ab) fun Ac=>bif (decide (Ac < 0)) then some ((-1)) else some (Ac)

def d_laws_szIntS (fu:Nat) (a1:List Int) (Aa:Int):Option (Int) :=
  bif (decide ((w64 (Aa - ((a1.length:Int)))) < 0)) then some ((-1)) else some (w64 (Aa - ((a1.length:Int))))

def d_laws_szCarton (fu:Nat) (a1:Carton) (Ab:Int):Option (Int) :=
  obind (d_laws_szIntS fu a1.fUnits Ab) fun Aa=>bif (decide (Aa < 0)) then some ((-1)) else some (Aa)

def d_laws_szCartonS_L1_B (fu:Nat)  (a1:List Carton) (k1:Int → Int → Option (Int)) (Ac:Int) (Aa:Int):Option (Int) :=
  bif (decide (Aa < ((a1.length:Int)))) then obind (ix a1 Aa) fun Ad=>obind (d_laws_szCarton fu Ad Ac) fun Ab=>bif (decide (Ab < 0)) then some ((-1)) else k1 Ab (w64 (Aa + 1)) else some (Ac)
def d_laws_szCartonS_L1 (fu:Nat)  (a1:List Carton):Nat → Int → Int → Option (Int)
  | 0=>fun _ _=>none
  | n + 1=>d_laws_szCartonS_L1_B fu a1 (d_laws_szCartonS_L1 fu a1 n)
theorem d_laws_szCartonS_L1_s (fu:Nat)  (a1:List Carton) (n:Nat):d_laws_szCartonS_L1 fu a1 (n + 1) = d_laws_szCartonS_L1_B fu a1 (d_laws_szCartonS_L1 fu a1 n):=z

def d_laws_szCartonS (fu:Nat) (a1:List Carton) (Aa:Int):Option (Int) :=
  bif (decide ((w64 (Aa - ((a1.length:Int)))) < 0)) then some ((-1)) else d_laws_szCartonS_L1 fu a1 fu (w64 (Aa - ((a1.length:Int)))) 0

def d_laws_szSpotS (fu:Nat) (a1:List Spot) (Aa:Int):Option (Int) :=
  bif (decide ((w64 (Aa - ((a1.length:Int)))) < 0)) then some ((-1)) else some (w64 (Aa - ((a1.length:Int))))

def d_laws_szPlan (fu:Nat) (a1:Plan) (Ac:Int):Option (Int) :=
  obind (d_laws_szCartonS fu a1.fCartons Ac) fun Aa=>bif (decide (Aa < 0)) then some ((-1)) else obind (d_laws_szSpotS fu a1.fSpots Aa) fun Ab=>bif (decide (Ab < 0)) then some ((-1)) else some (Ab)

def d_laws_toPallet (fu:Nat) (a1:Pallet):Option (Pallet) :=
  some (a1)

def d_laws_toPair (fu:Nat) (a1:Pair):Option (Pair) :=
  some (a1)

def d_laws_toPairS_L1_B (fu:Nat)  (a1:List Pair) (k1:List Pair → Int → Option ((List Pair))) (Ab:List Pair) (Aa:Int):Option ((List Pair)) :=
  bif (decide (Aa < ((a1.length:Int)))) then obind (ix a1 Aa) fun Ac=>obind (d_laws_toPair fu Ac) fun Ad=>obind (ix Ab Aa) fun Ae=>k1 (setx Ab Aa Ad) (w64 (Aa + 1)) else some (Ab)
def d_laws_toPairS_L1 (fu:Nat)  (a1:List Pair):Nat → List Pair → Int → Option ((List Pair))
  | 0=>fun _ _=>none
  | n + 1=>d_laws_toPairS_L1_B fu a1 (d_laws_toPairS_L1 fu a1 n)
theorem d_laws_toPairS_L1_s (fu:Nat)  (a1:List Pair) (n:Nat):d_laws_toPairS_L1 fu a1 (n + 1) = d_laws_toPairS_L1_B fu a1 (d_laws_toPairS_L1 fu a1 n):=z

def d_laws_toPairS (fu:Nat) (a1:List Pair):Option ((List Pair)) :=
  obind (mk 16 (⟨(0:Int),(0:Int)⟩:Pair) ((a1.length:Int))) fun x5=>d_laws_toPairS_L1 fu a1 fu x5 0

def d_laws_toType (fu:Nat) (a1:Typ):Option (Typ) :=
  some (a1)

def d_laws_toTypeS_L1_B (fu:Nat)  (a1:List Typ) (k1:List Typ → Int → Option ((List Typ))) (Ab:List Typ) (Aa:Int):Option ((List Typ)) :=
  bif (decide (Aa < ((a1.length:Int)))) then obind (ix a1 Aa) fun Ac=>obind (d_laws_toType fu Ac) fun Ad=>obind (ix Ab Aa) fun Ae=>k1 (setx Ab Aa Ad) (w64 (Aa + 1)) else some (Ab)
def d_laws_toTypeS_L1 (fu:Nat)  (a1:List Typ):Nat → List Typ → Int → Option ((List Typ))
  | 0=>fun _ _=>none
  | n + 1=>d_laws_toTypeS_L1_B fu a1 (d_laws_toTypeS_L1 fu a1 n)
theorem d_laws_toTypeS_L1_s (fu:Nat)  (a1:List Typ) (n:Nat):d_laws_toTypeS_L1 fu a1 (n + 1) = d_laws_toTypeS_L1_B fu a1 (d_laws_toTypeS_L1 fu a1 n):=z

def d_laws_toTypeS (fu:Nat) (a1:List Typ):Option ((List Typ)) :=
  obind (mk 56 (⟨(0:Int),(0:Int),(0:Int),(0:Int),(0:Int),(0:Int),(0:Int)⟩:Typ) ((a1.length:Int))) fun x5=>d_laws_toTypeS_L1 fu a1 fu x5 0

def d_laws_toItem (fu:Nat) (a1:Item):Option (Item) :=
  some (a1)

def d_laws_toItemS_L1_B (fu:Nat)  (a1:List Item) (k1:List Item → Int → Option ((List Item))) (Ab:List Item) (Aa:Int):Option ((List Item)) :=
  bif (decide (Aa < ((a1.length:Int)))) then obind (ix a1 Aa) fun Ac=>obind (d_laws_toItem fu Ac) fun Ad=>obind (ix Ab Aa) fun Ae=>k1 (setx Ab Aa Ad) (w64 (Aa + 1)) else some (Ab)
def d_laws_toItemS_L1 (fu:Nat)  (a1:List Item):Nat → List Item → Int → Option ((List Item))
  | 0=>fun _ _=>none
  | n + 1=>d_laws_toItemS_L1_B fu a1 (d_laws_toItemS_L1 fu a1 n)
theorem d_laws_toItemS_L1_s (fu:Nat)  (a1:List Item) (n:Nat):d_laws_toItemS_L1 fu a1 (n + 1) = d_laws_toItemS_L1_B fu a1 (d_laws_toItemS_L1 fu a1 n):=z

def d_laws_toItemS (fu:Nat) (a1:List Item):Option ((List Item)) :=
  obind (mk 56 (⟨(0:Int),(0:Int),(0:Int),(0:Int),(0:Int),(0:Int),(0:Int)⟩:Item) ((a1.length:Int))) fun x5=>d_laws_toItemS_L1 fu a1 fu x5 0

def d_laws_toRequest (fu:Nat) (a1:Request):Option (Request) :=
  obind (d_laws_toPallet fu a1.fPallet) fun Aa=>obind (d_laws_toPairS fu a1.fPairs) fun Ac=>obind (d_laws_toTypeS fu a1.fTypes) fun Ab=>obind (d_laws_toItemS fu a1.fItems) fun Ad=>some ((⟨a1.fWay,Aa,a1.fClasses,Ac,Ab,a1.fMaster,Ad⟩:Request))

def d_laws_toIntS_L1_B (fu:Nat)  (a1:List Int) (k1:List Int → Int → Option ((List Int))) (Ab:List Int) (Aa:Int):Option ((List Int)) :=
  bif (decide (Aa < ((a1.length:Int)))) then obind (ix a1 Aa) fun Ac=>obind (ix Ab Aa) fun Ad=>k1 (setx Ab Aa Ac) (w64 (Aa + 1)) else some (Ab)
def d_laws_toIntS_L1 (fu:Nat)  (a1:List Int):Nat → List Int → Int → Option ((List Int))
  | 0=>fun _ _=>none
  | n + 1=>d_laws_toIntS_L1_B fu a1 (d_laws_toIntS_L1 fu a1 n)
theorem d_laws_toIntS_L1_s (fu:Nat)  (a1:List Int) (n:Nat):d_laws_toIntS_L1 fu a1 (n + 1) = d_laws_toIntS_L1_B fu a1 (d_laws_toIntS_L1 fu a1 n):=z

def d_laws_toIntS (fu:Nat) (a1:List Int):Option ((List Int)) :=
  obind (mk 8 (0:Int) ((a1.length:Int))) fun x5=>d_laws_toIntS_L1 fu a1 fu x5 0

def d_laws_toCarton (fu:Nat) (a1:Carton):Option (Carton) :=
  obind (d_laws_toIntS fu a1.fUnits) fun Aa=>some ((⟨a1.fType,a1.fGroup,Aa⟩:Carton))

def d_laws_toCartonS_L1_B (fu:Nat)  (a1:List Carton) (k1:List Carton → Int → Option ((List Carton))) (Ab:List Carton) (Aa:Int):Option ((List Carton)) :=
  bif (decide (Aa < ((a1.length:Int)))) then obind (ix a1 Aa) fun Ac=>obind (d_laws_toCarton fu Ac) fun Ad=>obind (ix Ab Aa) fun Ae=>k1 (setx Ab Aa Ad) (w64 (Aa + 1)) else some (Ab)
def d_laws_toCartonS_L1 (fu:Nat)  (a1:List Carton):Nat → List Carton → Int → Option ((List Carton))
  | 0=>fun _ _=>none
  | n + 1=>d_laws_toCartonS_L1_B fu a1 (d_laws_toCartonS_L1 fu a1 n)
theorem d_laws_toCartonS_L1_s (fu:Nat)  (a1:List Carton) (n:Nat):d_laws_toCartonS_L1 fu a1 (n + 1) = d_laws_toCartonS_L1_B fu a1 (d_laws_toCartonS_L1 fu a1 n):=z

def d_laws_toCartonS (fu:Nat) (a1:List Carton):Option ((List Carton)) :=
  obind (mk 40 (⟨(0:Int),(0:Int),([]:List Int)⟩:Carton) ((a1.length:Int))) fun x5=>d_laws_toCartonS_L1 fu a1 fu x5 0

def d_laws_toSpot (fu:Nat) (a1:Spot):Option (Spot) :=
  some (a1)

def d_laws_toSpotS_L1_B (fu:Nat)  (a1:List Spot) (k1:List Spot → Int → Option ((List Spot))) (Ab:List Spot) (Aa:Int):Option ((List Spot)) :=
  bif (decide (Aa < ((a1.length:Int)))) then obind (ix a1 Aa) fun Ac=>obind (d_laws_toSpot fu Ac) fun Ad=>obind (ix Ab Aa) fun Ae=>k1 (setx Ab Aa Ad) (w64 (Aa + 1)) else some (Ab)
def d_laws_toSpotS_L1 (fu:Nat)  (a1:List Spot):Nat → List Spot → Int → Option ((List Spot))
  | 0=>fun _ _=>none
  | n + 1=>d_laws_toSpotS_L1_B fu a1 (d_laws_toSpotS_L1 fu a1 n)
theorem d_laws_toSpotS_L1_s (fu:Nat)  (a1:List Spot) (n:Nat):d_laws_toSpotS_L1 fu a1 (n + 1) = d_laws_toSpotS_L1_B fu a1 (d_laws_toSpotS_L1 fu a1 n):=z

def d_laws_toSpotS (fu:Nat) (a1:List Spot):Option ((List Spot)) :=
  obind (mk 32 (⟨(0:Int),(0:Int),(0:Int),(0:Int)⟩:Spot) ((a1.length:Int))) fun x5=>d_laws_toSpotS_L1 fu a1 fu x5 0

def d_laws_toPlan (fu:Nat) (a1:Plan):Option (Plan) :=
  obind (d_laws_toCartonS fu a1.fCartons) fun Ab=>obind (d_laws_toSpotS fu a1.fSpots) fun Aa=>some ((⟨Ab,Aa⟩:Plan))

def d_spec_l1In (fu:Nat) (x1:Int) (Ab:Int) (Aa:Int):Option (Bool) :=
  bif (decide (x1 ≥ Ab)) then some (decide (x1 ≤ Aa)) else some (false)

def d_spec_l2Side (fu:Nat) (x1:Int):Option (Bool) :=
  obind (d_spec_l1In fu x1 1 2000) fun x2=>some (x2)

def d_spec_PalletOk (fu:Nat) (x1:Pallet):Option (Bool) :=
  obind (d_spec_l2Side fu x1.fW) fun x5=>bif x5 then obind (d_spec_l2Side fu x1.fD) fun Aa=>bif Aa then obind (d_spec_l2Side fu x1.fH) fun Ab=>bif Ab then obind (d_spec_l1In fu x1.fGram 1 100000) fun Ac=>some (Ac) else some (false) else some (false) else some (false)

def d_spec_l2Id (fu:Nat) (x1:Int):Option (Bool) :=
  obind (d_spec_l1In fu x1 0 999) fun x2=>some (x2)

def d_spec_TypeOk (fu:Nat) (x1:Typ):Option (Bool) :=
  obind (d_spec_l2Id fu x1.fId) fun x5=>bif x5 then obind (d_spec_l2Side fu x1.fW) fun Ab=>bif Ab then obind (d_spec_l2Side fu x1.fH) fun Ac=>bif Ac then obind (d_spec_l2Side fu x1.fD) fun Ad=>bif Ad then obind (d_spec_l1In fu x1.fTare 0 100000) fun Ae=>bif Ae then obind (d_spec_l1In fu x1.fGram 1 100000) fun Aa=>bif Aa then obind (d_spec_l1In fu x1.fCost 0 100000) fun Af=>some (Af) else some (false) else some (false) else some (false) else some (false) else some (false) else some (false)

def d_spec_ItemOk (fu:Nat) (x1:Item):Option (Bool) :=
  obind (d_spec_l2Id fu x1.fId) fun x5=>bif x5 then obind (d_spec_l2Side fu x1.fW) fun Ab=>bif Ab then obind (d_spec_l2Side fu x1.fH) fun Ac=>bif Ac then obind (d_spec_l2Side fu x1.fD) fun Ad=>bif Ad then obind (d_spec_l1In fu x1.fGram 1 100000) fun Ae=>bif Ae then obind (d_spec_l1In fu x1.fClass 0 3) fun Aa=>bif Aa then obind (d_spec_l1In fu x1.fCount 1 6) fun Af=>some (Af) else some (false) else some (false) else some (false) else some (false) else some (false) else some (false)

def d_spec_BoundsOk_J1 (fu:Nat) (k4:Int → Option (Bool)) (Aa:Int)  : Option (Bool) :=
  k4 (w64 (Aa + 1))

def d_spec_BoundsOk_L1_B (fu:Nat)  (r1:Request) (k7:Int → Int → Option (Bool)) (Ac:Int) (Aa:Int):Option (Bool) :=
  bif (decide (Aa < ((r1.fItems.length:Int)))) then obind (ix r1.fItems Aa) fun Ab=>obind (d_spec_ItemOk fu Ab) fun Ad=>bif (!Ad) then some (false) else obind (ix r1.fItems Aa) fun Ae=>k7 (w64 (Ac + Ab.fCount)) (w64 (Aa + 1)) else some (decide (Ac ≤ 12))
def d_spec_BoundsOk_L1 (fu:Nat)  (r1:Request):Nat → Int → Int → Option (Bool)
  | 0=>fun _ _=>none
  | n + 1=>d_spec_BoundsOk_L1_B fu r1 (d_spec_BoundsOk_L1 fu r1 n)
theorem d_spec_BoundsOk_L1_s (fu:Nat)  (r1:Request) (n:Nat):d_spec_BoundsOk_L1 fu r1 (n + 1) = d_spec_BoundsOk_L1_B fu r1 (d_spec_BoundsOk_L1 fu r1 n):=z

def d_spec_BoundsOk_L2_B (fu:Nat)  (r1:Request) (k6:Int → Option (Bool)) (Aa:Int):Option (Bool) :=
  bif (decide (Aa < ((r1.fTypes.length:Int)))) then obind (ix r1.fTypes Aa) fun Ab=>obind (d_spec_TypeOk fu Ab) fun Ac=>bif (!Ac) then some (false) else k6 (w64 (Aa + 1)) else d_spec_BoundsOk_L1 fu r1 fu 0 0
def d_spec_BoundsOk_L2 (fu:Nat)  (r1:Request):Nat → Int → Option (Bool)
  | 0=>fun _=>none
  | n + 1=>d_spec_BoundsOk_L2_B fu r1 (d_spec_BoundsOk_L2 fu r1 n)
theorem d_spec_BoundsOk_L2_s (fu:Nat)  (r1:Request) (n:Nat):d_spec_BoundsOk_L2 fu r1 (n + 1) = d_spec_BoundsOk_L2_B fu r1 (d_spec_BoundsOk_L2 fu r1 n):=z

def d_spec_BoundsOk_L3_B (fu:Nat)  (r1:Request) (k4:Int → Option (Bool)) (Aa:Int):Option (Bool) :=
  bif (decide (Aa < ((r1.fPairs.length:Int)))) then obind (ix r1.fPairs Aa) fun Ab=>obind (d_spec_l1In fu Ab.fA 0 3) fun Ac=>bif (!Ac) then some (false) else obind (ix r1.fPairs Aa) fun Ae=>obind (d_spec_l1In fu Ab.fB 0 3) fun Ad=>bif (!Ad) then some (false) else d_spec_BoundsOk_J1 fu k4 Aa else d_spec_BoundsOk_L2 fu r1 fu 0
def d_spec_BoundsOk_L3 (fu:Nat)  (r1:Request):Nat → Int → Option (Bool)
  | 0=>fun _=>none
  | n + 1=>d_spec_BoundsOk_L3_B fu r1 (d_spec_BoundsOk_L3 fu r1 n)
theorem d_spec_BoundsOk_L3_s (fu:Nat)  (r1:Request) (n:Nat):d_spec_BoundsOk_L3 fu r1 (n + 1) = d_spec_BoundsOk_L3_B fu r1 (d_spec_BoundsOk_L3 fu r1 n):=z

def d_spec_BoundsOk_J2 (fu:Nat) (r1:Request)  : Option (Bool) :=
  d_spec_BoundsOk_L3 fu r1 fu 0

def d_spec_BoundsOk (fu:Nat) (r1:Request):Option (Bool) :=
  obind (d_spec_l1In fu r1.fWay 0 1) fun Aa=>bif (!Aa) then some (false) else obind (d_spec_PalletOk fu r1.fPallet) fun Ac=>bif (!Ac) then some (false) else obind (d_spec_l1In fu r1.fClasses 1 4) fun Ae=>bif (!Ae) then some (false) else bif (decide (((r1.fPairs.length:Int)) > 16)) then some (false) else obind (d_spec_l1In fu ((r1.fTypes.length:Int)) 1 5) fun Ad=>bif (!Ad) then some (false) else obind (d_spec_l2Id fu r1.fMaster) fun Ab=>bif (!Ab) then some (false) else bif (decide (((r1.fItems.length:Int)) > 8)) then some (false) else d_spec_BoundsOk_J2 fu r1

def d_spec_MasterOf_L1_B (fu:Nat)  (r1:Request) (k1:Int → Option (Typ × Bool)) (Aa:Int):Option (Typ × Bool) :=
  bif (decide (Aa < ((r1.fTypes.length:Int)))) then obind (ix r1.fTypes Aa) fun Ab=>bif (Ab.fId == r1.fMaster) then obind (ix r1.fTypes Aa) fun Ac=>some (Ab,true) else k1 (w64 (Aa + 1)) else some ((⟨0,0,0,0,0,0,0⟩:Typ),false)
def d_spec_MasterOf_L1 (fu:Nat)  (r1:Request):Nat → Int → Option (Typ × Bool)
  | 0=>fun _=>none
  | n + 1=>d_spec_MasterOf_L1_B fu r1 (d_spec_MasterOf_L1 fu r1 n)
theorem d_spec_MasterOf_L1_s (fu:Nat)  (r1:Request) (n:Nat):d_spec_MasterOf_L1 fu r1 (n + 1) = d_spec_MasterOf_L1_B fu r1 (d_spec_MasterOf_L1 fu r1 n):=z

def d_spec_MasterOf (fu:Nat) (r1:Request):Option (Typ × Bool) :=
  d_spec_MasterOf_L1 fu r1 fu 0

def d_spec_l5Names_L1_B (fu:Nat) (k3:Int → Option (Bool)) (r1:Request) (Aa:Int) (k4:Int → Option (Bool)) (Ab:Int):Option (Bool) :=
  bif (decide (Ab < Aa)) then obind (ix r1.fTypes Aa) fun Ac=>obind (ix r1.fTypes Ab) fun Ad=>bif (Ac.fId == Ad.fId) then some (false) else k4 (w64 (Ab + 1)) else k3 (w64 (Aa + 1))
def d_spec_l5Names_L1 (fu:Nat) (k3:Int → Option (Bool)) (r1:Request) (Aa:Int):Nat → Int → Option (Bool)
  | 0=>fun _=>none
  | n + 1=>d_spec_l5Names_L1_B fu k3 r1 Aa (d_spec_l5Names_L1 fu k3 r1 Aa n)
theorem d_spec_l5Names_L1_s (fu:Nat) (k3:Int → Option (Bool)) (r1:Request) (Aa:Int) (n:Nat):d_spec_l5Names_L1 fu k3 r1 Aa (n + 1) = d_spec_l5Names_L1_B fu k3 r1 Aa (d_spec_l5Names_L1 fu k3 r1 Aa n):=z

def d_spec_l5Names_L2_B (fu:Nat) (k7:Int → Option (Bool)) (r1:Request) (Aa:Int) (k8:Int → Option (Bool)) (Ab:Int):Option (Bool) :=
  bif (decide (Ab < Aa)) then obind (ix r1.fItems Aa) fun Ac=>obind (ix r1.fItems Ab) fun Ad=>bif (Ac.fId == Ad.fId) then some (false) else k8 (w64 (Ab + 1)) else k7 (w64 (Aa + 1))
def d_spec_l5Names_L2 (fu:Nat) (k7:Int → Option (Bool)) (r1:Request) (Aa:Int):Nat → Int → Option (Bool)
  | 0=>fun _=>none
  | n + 1=>d_spec_l5Names_L2_B fu k7 r1 Aa (d_spec_l5Names_L2 fu k7 r1 Aa n)
theorem d_spec_l5Names_L2_s (fu:Nat) (k7:Int → Option (Bool)) (r1:Request) (Aa:Int) (n:Nat):d_spec_l5Names_L2 fu k7 r1 Aa (n + 1) = d_spec_l5Names_L2_B fu k7 r1 Aa (d_spec_l5Names_L2 fu k7 r1 Aa n):=z

def d_spec_l5Names_J1 (fu:Nat) (Aa:Int → Option (Bool)) (Ab:Int)  : Option (Bool) :=
  Aa (w64 (Ab + 1))

def d_spec_l5Names_L3_B (fu:Nat)  (r1:Request) (Ad:Int → Option (Bool)) (Aa:Int):Option (Bool) :=
  bif (decide (Aa < ((r1.fPairs.length:Int)))) then obind (ix r1.fPairs Aa) fun Ab=>bif (decide (Ab.fA ≥ r1.fClasses)) then some (false) else obind (ix r1.fPairs Aa) fun Ae=>bif (decide (Ab.fB ≥ r1.fClasses)) then some (false) else d_spec_l5Names_J1 fu Ad Aa else obind (d_spec_MasterOf fu r1) fun Ac=>some (Ac.2)
def d_spec_l5Names_L3 (fu:Nat)  (r1:Request):Nat → Int → Option (Bool)
  | 0=>fun _=>none
  | n + 1=>d_spec_l5Names_L3_B fu r1 (d_spec_l5Names_L3 fu r1 n)
theorem d_spec_l5Names_L3_s (fu:Nat)  (r1:Request) (n:Nat):d_spec_l5Names_L3 fu r1 (n + 1) = d_spec_l5Names_L3_B fu r1 (d_spec_l5Names_L3 fu r1 n):=z

def d_spec_l5Names_L4_B (fu:Nat)  (r1:Request) (k7:Int → Option (Bool)) (Aa:Int):Option (Bool) :=
  bif (decide (Aa < ((r1.fItems.length:Int)))) then obind (ix r1.fItems Aa) fun Ab=>bif (decide (Ab.fClass ≥ r1.fClasses)) then some (false) else d_spec_l5Names_L2 fu k7 r1 Aa fu 0 else d_spec_l5Names_L3 fu r1 fu 0
def d_spec_l5Names_L4 (fu:Nat)  (r1:Request):Nat → Int → Option (Bool)
  | 0=>fun _=>none
  | n + 1=>d_spec_l5Names_L4_B fu r1 (d_spec_l5Names_L4 fu r1 n)
theorem d_spec_l5Names_L4_s (fu:Nat)  (r1:Request) (n:Nat):d_spec_l5Names_L4 fu r1 (n + 1) = d_spec_l5Names_L4_B fu r1 (d_spec_l5Names_L4 fu r1 n):=z

def d_spec_l5Names_L5_B (fu:Nat)  (r1:Request) (k3:Int → Option (Bool)) (Aa:Int):Option (Bool) :=
  bif (decide (Aa < ((r1.fTypes.length:Int)))) then d_spec_l5Names_L1 fu k3 r1 Aa fu 0 else d_spec_l5Names_L4 fu r1 fu 0
def d_spec_l5Names_L5 (fu:Nat)  (r1:Request):Nat → Int → Option (Bool)
  | 0=>fun _=>none
  | n + 1=>d_spec_l5Names_L5_B fu r1 (d_spec_l5Names_L5 fu r1 n)
theorem d_spec_l5Names_L5_s (fu:Nat)  (r1:Request) (n:Nat):d_spec_l5Names_L5 fu r1 (n + 1) = d_spec_l5Names_L5_B fu r1 (d_spec_l5Names_L5 fu r1 n):=z

def d_spec_l5Names (fu:Nat) (r1:Request):Option (Bool) :=
  d_spec_l5Names_L5 fu r1 fu 0

def d_spec_Beside_J1 (fu:Nat) (k3:Int → Option (Bool)) (Aa:Int)  : Option (Bool) :=
  k3 (w64 (Aa + 1))

def d_spec_Beside_L1_B (fu:Nat)  (Ab:List Pair) (a5:Int) (b6:Int) (k3:Int → Option (Bool)) (Aa:Int):Option (Bool) :=
  bif (decide (Aa < ((Ab.length:Int)))) then obind (ix Ab Aa) fun Ac=>bif (Ac.fA == a5) then obind (ix Ab Aa) fun Ad=>bif (Ac.fB == b6) then some (true) else d_spec_Beside_J1 fu k3 Aa else d_spec_Beside_J1 fu k3 Aa else some (false)
def d_spec_Beside_L1 (fu:Nat)  (Aa:List Pair) (a5:Int) (b6:Int):Nat → Int → Option (Bool)
  | 0=>fun _=>none
  | n + 1=>d_spec_Beside_L1_B fu Aa a5 b6 (d_spec_Beside_L1 fu Aa a5 b6 n)
theorem d_spec_Beside_L1_s (fu:Nat)  (Aa:List Pair) (a5:Int) (b6:Int) (n:Nat):d_spec_Beside_L1 fu Aa a5 b6 (n + 1) = d_spec_Beside_L1_B fu Aa a5 b6 (d_spec_Beside_L1 fu Aa a5 b6 n):=z

def d_spec_Beside (fu:Nat) (Aa:List Pair) (a5:Int) (b6:Int):Option (Bool) :=
  d_spec_Beside_L1 fu Aa a5 b6 fu 0

def d_spec_TableOk_J1 (fu:Nat) (Ab:Int → Option (Bool)) (Aa:Int)  : Option (Bool) :=
  Ab (w64 (Aa + 1))

def d_spec_TableOk_L1_B (fu:Nat) (k9:Int → Option (Bool)) (Ac:List Pair) (Af:Int) (Aa:Int) (Ad:Int → Option (Bool)) (Ab:Int):Option (Bool) :=
  bif (decide (Ab < Af)) then bif (Aa == Ab) then obind (d_spec_Beside fu Ac Aa Aa) fun Aj=>bif (!Aj) then some (false) else obind (d_spec_Beside fu Ac Aa Ab) fun Ai=>obind (d_spec_Beside fu Ac Ab Aa) fun Ae=>bif (!(Ai == Ae)) then some (false) else d_spec_TableOk_J1 fu Ad Ab else obind (d_spec_Beside fu Ac Aa Ab) fun Ag=>obind (d_spec_Beside fu Ac Ab Aa) fun Ah=>bif (!(Ag == Ah)) then some (false) else d_spec_TableOk_J1 fu Ad Ab else k9 (w64 (Aa + 1))
def d_spec_TableOk_L1 (fu:Nat) (k9:Int → Option (Bool)) (Ac:List Pair) (Ab:Int) (Aa:Int):Nat → Int → Option (Bool)
  | 0=>fun _=>none
  | n + 1=>d_spec_TableOk_L1_B fu k9 Ac Ab Aa (d_spec_TableOk_L1 fu k9 Ac Ab Aa n)
theorem d_spec_TableOk_L1_s (fu:Nat) (k9:Int → Option (Bool)) (Ac:List Pair) (Ab:Int) (Aa:Int) (n:Nat):d_spec_TableOk_L1 fu k9 Ac Ab Aa (n + 1) = d_spec_TableOk_L1_B fu k9 Ac Ab Aa (d_spec_TableOk_L1 fu k9 Ac Ab Aa n):=z

def d_spec_TableOk_L2_B (fu:Nat)  (Ac:List Pair) (Ab:Int) (k9:Int → Option (Bool)) (Aa:Int):Option (Bool) :=
  bif (decide (Aa < Ab)) then d_spec_TableOk_L1 fu k9 Ac Ab Aa fu 0 else some (true)
def d_spec_TableOk_L2 (fu:Nat)  (Ab:List Pair) (Aa:Int):Nat → Int → Option (Bool)
  | 0=>fun _=>none
  | n + 1=>d_spec_TableOk_L2_B fu Ab Aa (d_spec_TableOk_L2 fu Ab Aa n)
theorem d_spec_TableOk_L2_s (fu:Nat)  (Ab:List Pair) (Aa:Int) (n:Nat):d_spec_TableOk_L2 fu Ab Aa (n + 1) = d_spec_TableOk_L2_B fu Ab Aa (d_spec_TableOk_L2 fu Ab Aa n):=z

def d_spec_TableOk (fu:Nat) (Ab:List Pair) (Aa:Int):Option (Bool) :=
  obind (d_spec_l1In fu Aa 1 4) fun x6=>bif (!x6) then some (false) else d_spec_TableOk_L2 fu Ab Aa fu 0

def d_spec_l1Places_L1_B (fu:Nat)  (n1:Int) (k1:List Int → Int → Option ((List Int))) (Ab:List Int) (Aa:Int):Option ((List Int)) :=
  bif (decide (Aa < n1)) then obind (apnd 8 Ab (([Aa]:List Int))) fun Ac=>k1 Ac (w64 (Aa + 1)) else some (Ab)
def d_spec_l1Places_L1 (fu:Nat)  (n1:Int):Nat → List Int → Int → Option ((List Int))
  | 0=>fun _ _=>none
  | n + 1=>d_spec_l1Places_L1_B fu n1 (d_spec_l1Places_L1 fu n1 n)
theorem d_spec_l1Places_L1_s (fu:Nat)  (n1:Int) (n:Nat):d_spec_l1Places_L1 fu n1 (n + 1) = d_spec_l1Places_L1_B fu n1 (d_spec_l1Places_L1 fu n1 n):=z

def d_spec_l1Places (fu:Nat) (n1:Int):Option ((List Int)) :=
  d_spec_l1Places_L1 fu n1 fu (([]:List Int)) 0

def d_spec_l1Merge_J1 (fu:Nat) (k3:List Int → Int → Int → Option ((List Int))) (Ah:List Int) (Aj:Bool) (Ad:(List Int)) (Ae:(List Int)) (Ac:List Int) (Aa:Int) (Ab:Int)  : Option ((List Int)) :=
  bif (Ab == ((Ae.length:Int))) then obind (ix Ad Aa) fun Ap=>obind (apnd 8 Ac (([Ap]:List Int))) fun Au=>k3 Au (w64 (Aa + 1)) Ab else bif (Aa == ((Ad.length:Int))) then obind (ix Ae Ab) fun At=>obind (apnd 8 Ac (([At]:List Int))) fun Aq=>k3 Aq Aa (w64 (Ab + 1)) else obind (ix Ae Ab) fun Ag=>obind (ix Ah Ag) fun Ai=>obind (ix Ad Aa) fun Af=>obind (ix Ah Af) fun Ak=>bif (decide (Ai < Ak)) then bif (!Aj) then obind (ix Ae Ab) fun Ba=>obind (apnd 8 Ac (([Ag]:List Int))) fun Ao=>k3 Ao Aa (w64 (Ab + 1)) else obind (ix Ae Ab) fun Bj=>obind (ix Ah Ag) fun Az=>obind (ix Ad Aa) fun Ax=>obind (ix Ah Af) fun Bl=>bif (decide (Ai > Ak)) then bif Aj then obind (ix Ae Ab) fun Bi=>obind (apnd 8 Ac (([Ag]:List Int))) fun Al=>k3 Al Aa (w64 (Ab + 1)) else obind (ix Ad Aa) fun Ay=>obind (apnd 8 Ac (([Af]:List Int))) fun Am=>k3 Am (w64 (Aa + 1)) Ab else obind (ix Ad Aa) fun Bk=>obind (apnd 8 Ac (([Af]:List Int))) fun Av=>k3 Av (w64 (Aa + 1)) Ab else obind (ix Ae Ab) fun Bc=>obind (ix Ah Ag) fun Bg=>obind (ix Ad Aa) fun Bb=>obind (ix Ah Af) fun Bf=>bif (decide (Ai > Ak)) then bif Aj then obind (ix Ae Ab) fun Bd=>obind (apnd 8 Ac (([Ag]:List Int))) fun Aw=>k3 Aw Aa (w64 (Ab + 1)) else obind (ix Ad Aa) fun Be=>obind (apnd 8 Ac (([Af]:List Int))) fun As=>k3 As (w64 (Aa + 1)) Ab else obind (ix Ad Aa) fun Bh=>obind (apnd 8 Ac (([Af]:List Int))) fun Ar=>k3 Ar (w64 (Aa + 1)) Ab

def d_spec_l1Merge_L1_B (fu:Nat)  (Ag:List Int) (Af:Bool) (Ae:(List Int)) (Aa:(List Int)) (k3:List Int → Int → Int → Option ((List Int))) (Ad:List Int) (Ab:Int) (Ac:Int):Option ((List Int)) :=
  bif (decide (Ab < ((Ae.length:Int)))) then d_spec_l1Merge_J1 fu k3 Ag Af Ae Aa Ad Ab Ac else bif (decide (Ac < ((Aa.length:Int)))) then d_spec_l1Merge_J1 fu k3 Ag Af Ae Aa Ad Ab Ac else some (Ad)
def d_spec_l1Merge_L1 (fu:Nat)  (Ab:List Int) (Ad:Bool) (Aa:(List Int)) (Ac:(List Int)):Nat → List Int → Int → Int → Option ((List Int))
  | 0=>fun _ _ _=>none
  | n + 1=>d_spec_l1Merge_L1_B fu Ab Ad Aa Ac (d_spec_l1Merge_L1 fu Ab Ad Aa Ac n)
theorem d_spec_l1Merge_L1_s (fu:Nat)  (Ab:List Int) (Ad:Bool) (Aa:(List Int)) (Ac:(List Int)) (n:Nat):d_spec_l1Merge_L1 fu Ab Ad Aa Ac (n + 1) = d_spec_l1Merge_L1_B fu Ab Ad Aa Ac (d_spec_l1Merge_L1 fu Ab Ad Aa Ac n):=z

def d_spec_l1Merge_RB (fu:Nat) (self:List Int → List Int → Bool → Option ((List Int))) (Ac:List Int) (Aa:List Int) (Ab:Bool):Option ((List Int)) :=
  bif (decide (((Aa.length:Int)) < 2)) then obind (apnd 8 (([]:List Int)) Aa) fun Ad=>some (Ad) else obind (sls Aa 0 (w64 (Int.tdiv ((Aa.length:Int)) 2))) fun Ah=>obind (self Ac Ah Ab) fun Af=>obind (sls Aa (w64 (Int.tdiv ((Aa.length:Int)) 2)) (Aa.length:Int)) fun Ag=>obind (self Ac Ag Ab) fun Ae=>d_spec_l1Merge_L1 fu Ac Ab Af Ae fu (([]:List Int)) 0 0
def d_spec_l1Merge_R (fu:Nat):Nat → List Int → List Int → Bool → Option ((List Int))
  | 0=>fun _ _ _=>none
  | n + 1=>d_spec_l1Merge_RB fu (d_spec_l1Merge_R fu n)
theorem d_spec_l1Merge_Rs (fu:Nat) (n:Nat):d_spec_l1Merge_R fu (n + 1) = d_spec_l1Merge_RB fu (d_spec_l1Merge_R fu n):=z
def d_spec_l1Merge (fu:Nat) (Aa:List Int) (Ab:List Int) (Ac:Bool):Option ((List Int)):=d_spec_l1Merge_R fu fu Aa Ab Ac

def d_spec_SortUp (fu:Nat) (Aa:List Int):Option ((List Int)) :=
  obind (d_spec_l1Places fu ((Aa.length:Int))) fun x5=>obind (d_spec_l1Merge fu Aa x5 false) fun Ab=>some (Ab)

def d_spec_l5Sides (fu:Nat) (Aa:Int) (h2:Int) (d3:Int):Option ((List Int)) :=
  obind (d_spec_SortUp fu (([Aa,h2,d3]:List Int))) fun x9=>obind (ix x9 0) fun Ag=>obind (ix (([Aa,h2,d3]:List Int)) Ag) fun Ae=>obind (ix x9 1) fun Ac=>obind (ix (([Aa,h2,d3]:List Int)) Ac) fun Ab=>obind (ix x9 2) fun Af=>obind (ix (([Aa,h2,d3]:List Int)) Af) fun Ad=>some (([Ae,Ab,Ad]:List Int))

def d_spec_Fits (fu:Nat) (x1:Item) (t2:Typ):Option (Bool) :=
  obind (d_spec_l5Sides fu x1.fW x1.fH x1.fD) fun Aa=>obind (d_spec_l5Sides fu t2.fW t2.fH t2.fD) fun Ab=>obind (ix Aa 0) fun Ag=>obind (ix Ab 0) fun Ac=>bif (decide (Ag ≤ Ac)) then obind (ix Aa 1) fun Ae=>obind (ix Ab 1) fun Ah=>bif (decide (Ae ≤ Ah)) then obind (ix Aa 2) fun Ad=>obind (ix Ab 2) fun Af=>bif (decide (Ad ≤ Af)) then some (decide (x1.fGram ≤ t2.fGram)) else some (false) else some (false) else some (false)

def d_spec_Class_J1 (fu:Nat) (k4:Int → Option (Int)) (Aa:Int)  : Option (Int) :=
  k4 (w64 (Aa + 1))

def d_spec_Class_L1_B (fu:Nat)  (r1:Request) (k4:Int → Option (Int)) (Ab:Int):Option (Int) :=
  bif (decide (Ab < ((r1.fTypes.length:Int)))) then obind (ix r1.fTypes Ab) fun Aa=>bif (decide (Aa.fW > r1.fPallet.fW)) then some (6) else bif (decide (Aa.fD > r1.fPallet.fD)) then some (6) else bif (decide (Aa.fH > r1.fPallet.fH)) then some (6) else bif (decide ((w64 (Aa.fTare + Aa.fGram)) > r1.fPallet.fGram)) then some (6) else d_spec_Class_J1 fu k4 Ab else some (0)
def d_spec_Class_L1 (fu:Nat)  (r1:Request):Nat → Int → Option (Int)
  | 0=>fun _=>none
  | n + 1=>d_spec_Class_L1_B fu r1 (d_spec_Class_L1 fu r1 n)
theorem d_spec_Class_L1_s (fu:Nat)  (r1:Request) (n:Nat):d_spec_Class_L1 fu r1 (n + 1) = d_spec_Class_L1_B fu r1 (d_spec_Class_L1 fu r1 n):=z

def d_spec_Class_L2_B (fu:Nat)  (r1:Request) (Ab:Typ × Bool) (k1:Int → Option (Int)) (Aa:Int):Option (Int) :=
  bif (decide (Aa < ((r1.fItems.length:Int)))) then obind (ix r1.fItems Aa) fun Ad=>obind (d_spec_Fits fu Ad Ab.1) fun Ac=>bif (!Ac) then some (5) else k1 (w64 (Aa + 1)) else d_spec_Class_L1 fu r1 fu 0
def d_spec_Class_L2 (fu:Nat)  (r1:Request) (Aa:Typ × Bool):Nat → Int → Option (Int)
  | 0=>fun _=>none
  | n + 1=>d_spec_Class_L2_B fu r1 Aa (d_spec_Class_L2 fu r1 Aa n)
theorem d_spec_Class_L2_s (fu:Nat)  (r1:Request) (Aa:Typ × Bool) (n:Nat):d_spec_Class_L2 fu r1 Aa (n + 1) = d_spec_Class_L2_B fu r1 Aa (d_spec_Class_L2 fu r1 Aa n):=z

def d_spec_Class (fu:Nat) (r1:Request):Option (Int) :=
  obind (d_spec_BoundsOk fu r1) fun Ac=>bif (!Ac) then some (2) else obind (d_spec_l5Names fu r1) fun Ab=>bif (!Ab) then some (3) else obind (d_spec_TableOk fu r1.fPairs r1.fClasses) fun Aa=>bif (!Aa) then some (4) else obind (d_spec_MasterOf fu r1) fun Ad=>d_spec_Class_L2 fu r1 Ad fu 0

def d_spec_l13Carton_J1 (fu:Nat) (k4:Int → Option (Bool)) (Aa:Int)  : Option (Bool) :=
  k4 (w64 (Aa + 1))

def d_spec_l13Carton_L1_B (fu:Nat)  (x1:Carton) (k4:Int → Option (Bool)) (Aa:Int):Option (Bool) :=
  bif (decide (Aa < ((x1.fUnits.length:Int)))) then obind (ix x1.fUnits Aa) fun Ab=>obind (d_spec_l1In fu Ab 0 999) fun Ad=>bif (!Ad) then some (false) else bif (decide (Aa > 0)) then obind (ix x1.fUnits Aa) fun Ae=>obind (ix x1.fUnits (w64 (Aa - 1))) fun Ac=>bif (decide (Ab ≤ Ac)) then some (false) else d_spec_l13Carton_J1 fu k4 Aa else d_spec_l13Carton_J1 fu k4 Aa else some (true)
def d_spec_l13Carton_L1 (fu:Nat)  (x1:Carton):Nat → Int → Option (Bool)
  | 0=>fun _=>none
  | n + 1=>d_spec_l13Carton_L1_B fu x1 (d_spec_l13Carton_L1 fu x1 n)
theorem d_spec_l13Carton_L1_s (fu:Nat)  (x1:Carton) (n:Nat):d_spec_l13Carton_L1 fu x1 (n + 1) = d_spec_l13Carton_L1_B fu x1 (d_spec_l13Carton_L1 fu x1 n):=z

def d_spec_l13Carton_J2 (fu:Nat) (x1:Carton)  : Option (Bool) :=
  d_spec_l13Carton_L1 fu x1 fu 0

def d_spec_l13Carton (fu:Nat) (x1:Carton):Option (Bool) :=
  obind (d_spec_l2Id fu x1.fType) fun Aa=>bif (!Aa) then some (false) else obind (d_spec_l1In fu x1.fGroup 0 3) fun Ab=>bif (!Ab) then some (false) else bif (decide (((x1.fUnits.length:Int)) > 100)) then some (false) else d_spec_l13Carton_J2 fu x1

def d_spec_PlanOk_J1 (fu:Nat) (k4:Int → Option (Bool)) (Aa:Int)  : Option (Bool) :=
  k4 (w64 (Aa + 1))

def d_spec_PlanOk_L1_B (fu:Nat)  (x1:Plan) (k4:Int → Option (Bool)) (Aa:Int):Option (Bool) :=
  bif (decide (Aa < ((x1.fCartons.length:Int)))) then obind (ix x1.fSpots Aa) fun Ab=>obind (ix x1.fCartons Aa) fun Ag=>obind (d_spec_l13Carton fu Ag) fun Ah=>bif (!Ah) then some (false) else obind (d_spec_l1In fu Ab.fPallet 0 2000) fun Af=>bif (!Af) then some (false) else obind (d_spec_l1In fu Ab.fX 0 2000) fun Ae=>bif (!Ae) then some (false) else obind (d_spec_l1In fu Ab.fY 0 2000) fun Ac=>bif (!Ac) then some (false) else obind (d_spec_l1In fu Ab.fZ 0 2000) fun Ad=>bif (!Ad) then some (false) else d_spec_PlanOk_J1 fu k4 Aa else some (true)
def d_spec_PlanOk_L1 (fu:Nat)  (x1:Plan):Nat → Int → Option (Bool)
  | 0=>fun _=>none
  | n + 1=>d_spec_PlanOk_L1_B fu x1 (d_spec_PlanOk_L1 fu x1 n)
theorem d_spec_PlanOk_L1_s (fu:Nat)  (x1:Plan) (n:Nat):d_spec_PlanOk_L1 fu x1 (n + 1) = d_spec_PlanOk_L1_B fu x1 (d_spec_PlanOk_L1 fu x1 n):=z

def d_spec_PlanOk_J2 (fu:Nat) (x1:Plan)  : Option (Bool) :=
  d_spec_PlanOk_L1 fu x1 fu 0

def d_spec_PlanOk (fu:Nat) (x1:Plan):Option (Bool) :=
  bif (((x1.fCartons.length:Int)) != ((x1.fSpots.length:Int))) then some (false) else bif (decide (((x1.fCartons.length:Int)) > 100)) then some (false) else d_spec_PlanOk_J2 fu x1

def d_spec_l15Empty_L1_B (fu:Nat)  (x1:Plan) (k1:Int → Option (Bool)) (Aa:Int):Option (Bool) :=
  bif (decide (Aa < ((x1.fCartons.length:Int)))) then obind (ix x1.fCartons Aa) fun Ab=>bif (((Ab.fUnits.length:Int)) == 0) then some (true) else k1 (w64 (Aa + 1)) else some (false)
def d_spec_l15Empty_L1 (fu:Nat)  (x1:Plan):Nat → Int → Option (Bool)
  | 0=>fun _=>none
  | n + 1=>d_spec_l15Empty_L1_B fu x1 (d_spec_l15Empty_L1 fu x1 n)
theorem d_spec_l15Empty_L1_s (fu:Nat)  (x1:Plan) (n:Nat):d_spec_l15Empty_L1 fu x1 (n + 1) = d_spec_l15Empty_L1_B fu x1 (d_spec_l15Empty_L1 fu x1 n):=z

def d_spec_l15Empty (fu:Nat) (x1:Plan):Option (Bool) :=
  d_spec_l15Empty_L1 fu x1 fu 0

def d_spec_l6Units_L1_B (fu:Nat) (k3:List Int → Int → Option ((List Int))) (r1:Request) (Aa:Int) (k4:List Int → Int → Option ((List Int))) (Ac:List Int) (Ab:Int):Option ((List Int)) :=
  obind (ix r1.fItems Aa) fun Ae=>bif (decide (Ab < Ae.fCount)) then obind (apnd 8 Ac (([Aa]:List Int))) fun Ad=>k4 Ad (w64 (Ab + 1)) else k3 Ac (w64 (Aa + 1))
def d_spec_l6Units_L1 (fu:Nat) (k3:List Int → Int → Option ((List Int))) (r1:Request) (Aa:Int):Nat → List Int → Int → Option ((List Int))
  | 0=>fun _ _=>none
  | n + 1=>d_spec_l6Units_L1_B fu k3 r1 Aa (d_spec_l6Units_L1 fu k3 r1 Aa n)
theorem d_spec_l6Units_L1_s (fu:Nat) (k3:List Int → Int → Option ((List Int))) (r1:Request) (Aa:Int) (n:Nat):d_spec_l6Units_L1 fu k3 r1 Aa (n + 1) = d_spec_l6Units_L1_B fu k3 r1 Aa (d_spec_l6Units_L1 fu k3 r1 Aa n):=z

def d_spec_l6Units_L2_B (fu:Nat)  (r1:Request) (k3:List Int → Int → Option ((List Int))) (Aa:List Int) (Ab:Int):Option ((List Int)) :=
  bif (decide (Ab < ((r1.fItems.length:Int)))) then d_spec_l6Units_L1 fu k3 r1 Ab fu Aa 0 else some (Aa)
def d_spec_l6Units_L2 (fu:Nat)  (r1:Request):Nat → List Int → Int → Option ((List Int))
  | 0=>fun _ _=>none
  | n + 1=>d_spec_l6Units_L2_B fu r1 (d_spec_l6Units_L2 fu r1 n)
theorem d_spec_l6Units_L2_s (fu:Nat)  (r1:Request) (n:Nat):d_spec_l6Units_L2 fu r1 (n + 1) = d_spec_l6Units_L2_B fu r1 (d_spec_l6Units_L2 fu r1 n):=z

def d_spec_l6Units (fu:Nat) (r1:Request):Option ((List Int)) :=
  d_spec_l6Units_L2 fu r1 fu (([]:List Int)) 0

def d_spec_l15Flat_L1_B (fu:Nat)  (x1:Plan) (k1:List Int → Int → Option ((List Int))) (Ab:List Int) (Aa:Int):Option ((List Int)) :=
  bif (decide (Aa < ((x1.fCartons.length:Int)))) then obind (ix x1.fCartons Aa) fun Ac=>obind (apnd 8 Ab Ac.fUnits) fun Ad=>k1 Ad (w64 (Aa + 1)) else some (Ab)
def d_spec_l15Flat_L1 (fu:Nat)  (x1:Plan):Nat → List Int → Int → Option ((List Int))
  | 0=>fun _ _=>none
  | n + 1=>d_spec_l15Flat_L1_B fu x1 (d_spec_l15Flat_L1 fu x1 n)
theorem d_spec_l15Flat_L1_s (fu:Nat)  (x1:Plan) (n:Nat):d_spec_l15Flat_L1 fu x1 (n + 1) = d_spec_l15Flat_L1_B fu x1 (d_spec_l15Flat_L1 fu x1 n):=z

def d_spec_l15Flat (fu:Nat) (x1:Plan):Option ((List Int)) :=
  d_spec_l15Flat_L1 fu x1 fu (([]:List Int)) 0

def d_spec_l1Bit (fu:Nat) (Aa:Bool):Option (Int) :=
  bif Aa then some (1) else some (0)

def d_spec_l8Times_L1_B (fu:Nat)  (Ac:List Int) (x5:Int) (k1:Int → Int → Option (Int)) (Ab:Int) (Aa:Int):Option (Int) :=
  bif (decide (Aa < ((Ac.length:Int)))) then obind (ix Ac Aa) fun Ae=>obind (d_spec_l1Bit fu (Ae == x5)) fun Ad=>k1 (w64 (Ab + Ad)) (w64 (Aa + 1)) else some (Ab)
def d_spec_l8Times_L1 (fu:Nat)  (Aa:List Int) (x5:Int):Nat → Int → Int → Option (Int)
  | 0=>fun _ _=>none
  | n + 1=>d_spec_l8Times_L1_B fu Aa x5 (d_spec_l8Times_L1 fu Aa x5 n)
theorem d_spec_l8Times_L1_s (fu:Nat)  (Aa:List Int) (x5:Int) (n:Nat):d_spec_l8Times_L1 fu Aa x5 (n + 1) = d_spec_l8Times_L1_B fu Aa x5 (d_spec_l8Times_L1 fu Aa x5 n):=z

def d_spec_l8Times (fu:Nat) (Aa:List Int) (x5:Int):Option (Int) :=
  d_spec_l8Times_L1 fu Aa x5 fu 0 0

def d_spec_l15Units_L1_B (fu:Nat)  (Ac:List Int) (Ab:(List Int)) (k1:Int → Option (Bool)) (Aa:Int):Option (Bool) :=
  bif (decide (Aa < ((Ac.length:Int)))) then obind (d_spec_l8Times fu Ab Aa) fun Ad=>bif (Ad != 1) then some (false) else k1 (w64 (Aa + 1)) else some (true)
def d_spec_l15Units_L1 (fu:Nat)  (Ab:List Int) (Aa:(List Int)):Nat → Int → Option (Bool)
  | 0=>fun _=>none
  | n + 1=>d_spec_l15Units_L1_B fu Ab Aa (d_spec_l15Units_L1 fu Ab Aa n)
theorem d_spec_l15Units_L1_s (fu:Nat)  (Ab:List Int) (Aa:(List Int)) (n:Nat):d_spec_l15Units_L1 fu Ab Aa (n + 1) = d_spec_l15Units_L1_B fu Ab Aa (d_spec_l15Units_L1 fu Ab Aa n):=z

def d_spec_l15Units (fu:Nat) (Ab:List Int) (x5:Plan):Option (Bool) :=
  obind (d_spec_l15Flat fu x5) fun Aa=>bif (((Aa.length:Int)) != ((Ab.length:Int))) then some (false) else d_spec_l15Units_L1 fu Ab Aa fu 0

def d_spec_TypeById_L1_B (fu:Nat)  (r1:Request) (Ac:Int) (k1:Int → Option (Typ × Bool)) (Aa:Int):Option (Typ × Bool) :=
  bif (decide (Aa < ((r1.fTypes.length:Int)))) then obind (ix r1.fTypes Aa) fun Ab=>bif (Ab.fId == Ac) then obind (ix r1.fTypes Aa) fun Ad=>some (Ab,true) else k1 (w64 (Aa + 1)) else some ((⟨0,0,0,0,0,0,0⟩:Typ),false)
def d_spec_TypeById_L1 (fu:Nat)  (r1:Request) (Aa:Int):Nat → Int → Option (Typ × Bool)
  | 0=>fun _=>none
  | n + 1=>d_spec_TypeById_L1_B fu r1 Aa (d_spec_TypeById_L1 fu r1 Aa n)
theorem d_spec_TypeById_L1_s (fu:Nat)  (r1:Request) (Aa:Int) (n:Nat):d_spec_TypeById_L1 fu r1 Aa (n + 1) = d_spec_TypeById_L1_B fu r1 Aa (d_spec_TypeById_L1 fu r1 Aa n):=z

def d_spec_TypeById (fu:Nat) (r1:Request) (Aa:Int):Option (Typ × Bool) :=
  d_spec_TypeById_L1 fu r1 Aa fu 0

def d_spec_l6Item (fu:Nat) (r1:Request) (Aa:List Int) (u9:Int):Option (Item × Bool) :=
  obind (d_spec_l1In fu u9 0 (w64 (((Aa.length:Int)) - 1))) fun Ab=>bif (!Ab) then some ((⟨0,0,0,0,0,0,0⟩:Item),false) else obind (ix Aa u9) fun Ad=>obind (ix r1.fItems Ad) fun Ac=>some (Ac,true)

def d_spec_Volume_J1 (fu:Nat) (Aa:Int) (h2:Int) (d3:Int)  : Option (Int) :=
  some (w64 ((w64 (Aa * h2)) * d3))

def d_spec_Volume (fu:Nat) (Aa:Int) (h2:Int) (d3:Int):Option (Int) :=
  obind (d_spec_l1In fu Aa 0 2000) fun Ac=>bif (!Ac) then some (0) else obind (d_spec_l1In fu h2 0 2000) fun Ab=>bif (!Ab) then some (0) else obind (d_spec_l1In fu d3 0 2000) fun Ad=>bif (!Ad) then some (0) else d_spec_Volume_J1 fu Aa h2 d3

def d_spec_l7Of_J1 (fu:Nat) (k7:L7 → Int → Option (L7)) (Ab:Int) (Aa:L7):Option (L7) :=
  k7 Aa (w64 (Ab + 1))

def d_spec_l7Of_J2 (fu:Nat) (k7:L7 → Int → Option (L7)) (Ab:L7) (Ac:Int) (Aa:Item):Option (L7) :=
  obind (d_spec_Volume fu Aa.fW Aa.fH Aa.fD) fun Ad=>d_spec_l7Of_J1 fu k7 Ac ((⟨w64 (Ab.fvol + Ad),w64 (Ab.fgram + Aa.fGram)⟩:L7))

def d_spec_l7Of_L1_B (fu:Nat)  (r1:Request) (Af:List Int) (Ac:List Int) (k7:L7 → Int → Option (L7)) (Ab:L7) (Aa:Int):Option (L7) :=
  bif (decide (Aa < ((Ac.length:Int)))) then obind (ix Ac Aa) fun Ae=>obind (d_spec_l6Item fu r1 Af Ae) fun Ad=>d_spec_l7Of_J2 fu k7 Ab Aa Ad.1 else some (Ab)
def d_spec_l7Of_L1 (fu:Nat)  (r1:Request) (Ab:List Int) (Aa:List Int):Nat → L7 → Int → Option (L7)
  | 0=>fun _ _=>none
  | n + 1=>d_spec_l7Of_L1_B fu r1 Ab Aa (d_spec_l7Of_L1 fu r1 Ab Aa n)
theorem d_spec_l7Of_L1_s (fu:Nat)  (r1:Request) (Ab:List Int) (Aa:List Int) (n:Nat):d_spec_l7Of_L1 fu r1 Ab Aa (n + 1) = d_spec_l7Of_L1_B fu r1 Ab Aa (d_spec_l7Of_L1 fu r1 Ab Aa n):=z

def d_spec_l7Of (fu:Nat) (r1:Request) (Ab:List Int) (Aa:List Int):Option (L7) :=
  d_spec_l7Of_L1 fu r1 Ab Aa fu ((⟨0,0⟩:L7)) 0

def d_spec_Holds_J1 (fu:Nat) (r1:Request) (Ab:List Int) (t9:Typ) (Ad:(List Int))  : Option (Bool) :=
  obind (d_spec_l7Of fu r1 Ad Ab) fun Aa=>obind (d_spec_Volume fu t9.fW t9.fH t9.fD) fun Ac=>bif (decide (Aa.fvol ≤ Ac)) then some (decide (Aa.fgram ≤ t9.fGram)) else some (false)

def d_spec_Holds_J2 (fu:Nat) (Ab:Int → Option (Bool)) (Aa:Int)  : Option (Bool) :=
  Ab (w64 (Aa + 1))

def d_spec_Holds_J3 (fu:Nat) (Ae:Int → Option (Bool)) (t9:Typ) (Ac:Int) (Ad:Item) (Aa:Bool):Option (Bool) :=
  bif (!Aa) then some (false) else obind (d_spec_Fits fu Ad t9) fun Ab=>bif (!Ab) then some (false) else d_spec_Holds_J2 fu Ae Ac

def d_spec_Holds_L1_B (fu:Nat)  (r1:Request) (Ab:List Int) (t9:Typ) (Ad:(List Int)) (Af:Int → Option (Bool)) (Aa:Int):Option (Bool) :=
  bif (decide (Aa < ((Ab.length:Int)))) then obind (ix Ab Aa) fun Ae=>obind (d_spec_l6Item fu r1 Ad Ae) fun Ac=>d_spec_Holds_J3 fu Af t9 Aa Ac.1 Ac.2 else d_spec_Holds_J1 fu r1 Ab t9 Ad
def d_spec_Holds_L1 (fu:Nat)  (r1:Request) (Aa:List Int) (t9:Typ) (Ab:(List Int)):Nat → Int → Option (Bool)
  | 0=>fun _=>none
  | n + 1=>d_spec_Holds_L1_B fu r1 Aa t9 Ab (d_spec_Holds_L1 fu r1 Aa t9 Ab n)
theorem d_spec_Holds_L1_s (fu:Nat)  (r1:Request) (Aa:List Int) (t9:Typ) (Ab:(List Int)) (n:Nat):d_spec_Holds_L1 fu r1 Aa t9 Ab (n + 1) = d_spec_Holds_L1_B fu r1 Aa t9 Ab (d_spec_Holds_L1 fu r1 Aa t9 Ab n):=z

def d_spec_Holds (fu:Nat) (r1:Request) (Ab:List Int) (t9:Typ):Option (Bool) :=
  obind (d_spec_Class fu r1) fun Aa=>bif (Aa != 0) then some (false) else obind (d_spec_l6Units fu r1) fun Ac=>d_spec_Holds_L1 fu r1 Ab t9 Ac fu 0

def d_spec_l15Holds_J1 (fu:Nat) (k7:Int → Option (Bool)) (Aa:Int)  : Option (Bool) :=
  k7 (w64 (Aa + 1))

def d_spec_l15Holds_J2 (fu:Nat) (k7:Int → Option (Bool)) (r1:Request) (x5:Plan) (Aa:Int) (Ad:Typ) (Ac:Bool):Option (Bool) :=
  bif (!Ac) then some (false) else obind (ix x5.fCartons Aa) fun Ae=>obind (d_spec_Holds fu r1 Ae.fUnits Ad) fun Ab=>bif (!Ab) then some (false) else d_spec_l15Holds_J1 fu k7 Aa

def d_spec_l15Holds_L1_B (fu:Nat)  (r1:Request) (x5:Plan) (k7:Int → Option (Bool)) (Aa:Int):Option (Bool) :=
  bif (decide (Aa < ((x5.fCartons.length:Int)))) then obind (ix x5.fCartons Aa) fun Ac=>obind (d_spec_TypeById fu r1 Ac.fType) fun Ab=>d_spec_l15Holds_J2 fu k7 r1 x5 Aa Ab.1 Ab.2 else some (true)
def d_spec_l15Holds_L1 (fu:Nat)  (r1:Request) (x5:Plan):Nat → Int → Option (Bool)
  | 0=>fun _=>none
  | n + 1=>d_spec_l15Holds_L1_B fu r1 x5 (d_spec_l15Holds_L1 fu r1 x5 n)
theorem d_spec_l15Holds_L1_s (fu:Nat)  (r1:Request) (x5:Plan) (n:Nat):d_spec_l15Holds_L1 fu r1 x5 (n + 1) = d_spec_l15Holds_L1_B fu r1 x5 (d_spec_l15Holds_L1 fu r1 x5 n):=z

def d_spec_l15Holds (fu:Nat) (r1:Request) (x5:Plan):Option (Bool) :=
  d_spec_l15Holds_L1 fu r1 x5 fu 0

def d_spec_Present_J1 (fu:Nat) (Aa:List Int → Int → Option ((List Int))) (Ab:Int) (Ac:List Int):Option ((List Int)) :=
  Aa Ac (w64 (Ab + 1))

def d_spec_Present_J2 (fu:Nat) (Ac:Bool → Int → Option ((List Int))) (Aa:Int) (Ab:Bool):Option ((List Int)) :=
  Ac Ab (w64 (Aa + 1))

def d_spec_Present_L1_B (fu:Nat) (Ac:List Int → Int → Option ((List Int))) (r1:Request) (Ad:List Int) (Ab:Int) (Af:Bool → Int → Option ((List Int))) (Ae:Bool) (Aa:Int):Option ((List Int)) :=
  bif (decide (Aa < ((r1.fItems.length:Int)))) then bif Ae then d_spec_Present_J2 fu Af Aa true else obind (ix r1.fItems Aa) fun Ag=>d_spec_Present_J2 fu Af Aa (Ag.fClass == Ab) else bif Ae then obind (apnd 8 Ad (([Ab]:List Int))) fun Ah=>d_spec_Present_J1 fu Ac Ab Ah else d_spec_Present_J1 fu Ac Ab Ad
def d_spec_Present_L1 (fu:Nat) (Aa:List Int → Int → Option ((List Int))) (r1:Request) (Ac:List Int) (Ab:Int):Nat → Bool → Int → Option ((List Int))
  | 0=>fun _ _=>none
  | n + 1=>d_spec_Present_L1_B fu Aa r1 Ac Ab (d_spec_Present_L1 fu Aa r1 Ac Ab n)
theorem d_spec_Present_L1_s (fu:Nat) (Aa:List Int → Int → Option ((List Int))) (r1:Request) (Ac:List Int) (Ab:Int) (n:Nat):d_spec_Present_L1 fu Aa r1 Ac Ab (n + 1) = d_spec_Present_L1_B fu Aa r1 Ac Ab (d_spec_Present_L1 fu Aa r1 Ac Ab n):=z

def d_spec_Present_L2_B (fu:Nat)  (r1:Request) (Ac:List Int → Int → Option ((List Int))) (Ab:List Int) (Aa:Int):Option ((List Int)) :=
  bif (decide (Aa < 4)) then d_spec_Present_L1 fu Ac r1 Ab Aa fu false 0 else some (Ab)
def d_spec_Present_L2 (fu:Nat)  (r1:Request):Nat → List Int → Int → Option ((List Int))
  | 0=>fun _ _=>none
  | n + 1=>d_spec_Present_L2_B fu r1 (d_spec_Present_L2 fu r1 n)
theorem d_spec_Present_L2_s (fu:Nat)  (r1:Request) (n:Nat):d_spec_Present_L2 fu r1 (n + 1) = d_spec_Present_L2_B fu r1 (d_spec_Present_L2 fu r1 n):=z

def d_spec_Present (fu:Nat) (r1:Request):Option ((List Int)) :=
  obind (d_spec_Class fu r1) fun Aa=>bif (Aa != 0) then some (([]:List Int)) else d_spec_Present_L2 fu r1 fu (([]:List Int)) 0

def d_spec_l1Has_L1_B (fu:Nat)  (Ab:List Int) (x5:Int) (k1:Int → Option (Bool)) (Aa:Int):Option (Bool) :=
  bif (decide (Aa < ((Ab.length:Int)))) then obind (ix Ab Aa) fun Ac=>bif (Ac == x5) then some (true) else k1 (w64 (Aa + 1)) else some (false)
def d_spec_l1Has_L1 (fu:Nat)  (Aa:List Int) (x5:Int):Nat → Int → Option (Bool)
  | 0=>fun _=>none
  | n + 1=>d_spec_l1Has_L1_B fu Aa x5 (d_spec_l1Has_L1 fu Aa x5 n)
theorem d_spec_l1Has_L1_s (fu:Nat)  (Aa:List Int) (x5:Int) (n:Nat):d_spec_l1Has_L1 fu Aa x5 (n + 1) = d_spec_l1Has_L1_B fu Aa x5 (d_spec_l1Has_L1 fu Aa x5 n):=z

def d_spec_l1Has (fu:Nat) (Aa:List Int) (x5:Int):Option (Bool) :=
  d_spec_l1Has_L1 fu Aa x5 fu 0

def d_spec_l3Joins_J1 (fu:Nat) (k3:Int → Option (Bool)) (Aa:Int)  : Option (Bool) :=
  k3 (w64 (Aa + 1))

def d_spec_l3Joins_L1_B (fu:Nat)  (Ae:List Pair) (Ab:List Int) (Ad:Int) (k3:Int → Option (Bool)) (Aa:Int):Option (Bool) :=
  bif (decide (Aa < ((Ab.length:Int)))) then obind (ix Ab Aa) fun Ac=>obind (d_spec_Beside fu Ae Ac Ad) fun Ag=>bif (!Ag) then some (false) else obind (ix Ab Aa) fun Ah=>obind (d_spec_Beside fu Ae Ad Ac) fun Af=>bif (!Af) then some (false) else d_spec_l3Joins_J1 fu k3 Aa else some (true)
def d_spec_l3Joins_L1 (fu:Nat)  (Ac:List Pair) (Ab:List Int) (Aa:Int):Nat → Int → Option (Bool)
  | 0=>fun _=>none
  | n + 1=>d_spec_l3Joins_L1_B fu Ac Ab Aa (d_spec_l3Joins_L1 fu Ac Ab Aa n)
theorem d_spec_l3Joins_L1_s (fu:Nat)  (Ac:List Pair) (Ab:List Int) (Aa:Int) (n:Nat):d_spec_l3Joins_L1 fu Ac Ab Aa (n + 1) = d_spec_l3Joins_L1_B fu Ac Ab Aa (d_spec_l3Joins_L1 fu Ac Ab Aa n):=z

def d_spec_l3Joins (fu:Nat) (Ac:List Pair) (Ab:List Int) (Aa:Int):Option (Bool) :=
  d_spec_l3Joins_L1 fu Ac Ab Aa fu 0

def d_spec_Groups_J1 (fu:Nat) (Aa:List (List Int) → Int → Option ((List (List Int)))) (Ab:Int) (Ac:List (List Int)):Option ((List (List Int))) :=
  Aa Ac (w64 (Ab + 1))

def d_spec_Groups_J2 (fu:Nat) (Ac:Int → Int → Option ((List (List Int)))) (Ab:Int) (Aa:Int):Option ((List (List Int))) :=
  Ac Aa (w64 (Ab - 1))

def d_spec_Groups_L1_B (fu:Nat) (Ae:List (List Int) → Int → Option ((List (List Int)))) (Al:List Pair) (Ac:List (List Int)) (Ad:Int) (Af:Int → Int → Option ((List (List Int)))) (Ab:Int) (Aa:Int):Option ((List (List Int))) :=
  bif (decide (Aa ≥ 0)) then obind (ix Ac Aa) fun Aj=>obind (d_spec_l3Joins fu Al Aj Ad) fun Ah=>bif Ah then d_spec_Groups_J2 fu Af Aa Aa else d_spec_Groups_J2 fu Af Aa Ab else bif (decide (Ab < 0)) then obind (apnd 24 Ac [([Ad]:List Int)]) fun Ak=>d_spec_Groups_J1 fu Ae Ad Ak else obind (ix Ac Ab) fun Ai=>obind (apnd 8 Ai (([Ad]:List Int))) fun Ag=>obind (ix Ac Ab) fun Am=>d_spec_Groups_J1 fu Ae Ad (setx Ac Ab Ag)
def d_spec_Groups_L1 (fu:Nat) (Aa:List (List Int) → Int → Option ((List (List Int)))) (Ad:List Pair) (Ab:List (List Int)) (Ac:Int):Nat → Int → Int → Option ((List (List Int)))
  | 0=>fun _ _=>none
  | n + 1=>d_spec_Groups_L1_B fu Aa Ad Ab Ac (d_spec_Groups_L1 fu Aa Ad Ab Ac n)
theorem d_spec_Groups_L1_s (fu:Nat) (Aa:List (List Int) → Int → Option ((List (List Int)))) (Ad:List Pair) (Ab:List (List Int)) (Ac:Int) (n:Nat):d_spec_Groups_L1 fu Aa Ad Ab Ac (n + 1) = d_spec_Groups_L1_B fu Aa Ad Ab Ac (d_spec_Groups_L1 fu Aa Ad Ab Ac n):=z

def d_spec_Groups_L2_B (fu:Nat)  (Af:List Pair) (Ae:List Int) (Ac:List (List Int) → Int → Option ((List (List Int)))) (Aa:List (List Int)) (Ab:Int):Option ((List (List Int))) :=
  bif (decide (Ab < 4)) then obind (d_spec_l1Has fu Ae Ab) fun Ad=>bif (!Ad) then d_spec_Groups_J1 fu Ac Ab Aa else d_spec_Groups_L1 fu Ac Af Aa Ab fu ((-1)) (w64 (((Aa.length:Int)) - 1)) else some (Aa)
def d_spec_Groups_L2 (fu:Nat)  (Ab:List Pair) (Aa:List Int):Nat → List (List Int) → Int → Option ((List (List Int)))
  | 0=>fun _ _=>none
  | n + 1=>d_spec_Groups_L2_B fu Ab Aa (d_spec_Groups_L2 fu Ab Aa n)
theorem d_spec_Groups_L2_s (fu:Nat)  (Ab:List Pair) (Aa:List Int) (n:Nat):d_spec_Groups_L2 fu Ab Aa (n + 1) = d_spec_Groups_L2_B fu Ab Aa (d_spec_Groups_L2 fu Ab Aa n):=z

def d_spec_Groups (fu:Nat) (Ab:List Pair) (Aa:List Int):Option ((List (List Int))) :=
  d_spec_Groups_L2 fu Ab Aa fu (([]:List (List Int))) 0

def d_spec_GroupsOf (fu:Nat) (r1:Request):Option ((List (List Int))) :=
  obind (d_spec_Present fu r1) fun Aa=>obind (d_spec_Groups fu r1.fPairs Aa) fun Ab=>some (Ab)

def d_spec_GroupOf_L1_B (fu:Nat)  (Ab:List (List Int)) (Ae:Int) (k1:Int → Option (Int)) (Aa:Int):Option (Int) :=
  bif (decide (Aa < ((Ab.length:Int)))) then obind (ix Ab Aa) fun Ac=>obind (d_spec_l1Has fu Ac Ae) fun Ad=>bif Ad then some (Aa) else k1 (w64 (Aa + 1)) else some ((-1))
def d_spec_GroupOf_L1 (fu:Nat)  (Aa:List (List Int)) (Ab:Int):Nat → Int → Option (Int)
  | 0=>fun _=>none
  | n + 1=>d_spec_GroupOf_L1_B fu Aa Ab (d_spec_GroupOf_L1 fu Aa Ab n)
theorem d_spec_GroupOf_L1_s (fu:Nat)  (Aa:List (List Int)) (Ab:Int) (n:Nat):d_spec_GroupOf_L1 fu Aa Ab (n + 1) = d_spec_GroupOf_L1_B fu Aa Ab (d_spec_GroupOf_L1 fu Aa Ab n):=z

def d_spec_GroupOf (fu:Nat) (Aa:List (List Int)) (Ab:Int):Option (Int) :=
  d_spec_GroupOf_L1 fu Aa Ab fu 0

def d_spec_l15Group_J1 (fu:Nat) (Ab:Int → Option (Bool)) (Aa:Int)  : Option (Bool) :=
  Ab (w64 (Aa + 1))

def d_spec_l15Group_J2 (fu:Nat) (Ab:Int → Option (Bool)) (Aa:Int)  : Option (Bool) :=
  Ab (w64 (Aa + 1))

def d_spec_l15Group_J3 (fu:Nat) (Ab:Int → Option (Bool)) (x9:Plan) (Ad:(List (List Int))) (Ae:Int) (Aa:Int) (Af:Item):Option (Bool) :=
  obind (ix x9.fCartons Ae) fun Ag=>obind (d_spec_GroupOf fu Ad Af.fClass) fun Ac=>bif (Ac != Ag.fGroup) then some (false) else d_spec_l15Group_J2 fu Ab Aa

def d_spec_l15Group_L1_B (fu:Nat) (Ah:Int → Option (Bool)) (r1:Request) (Ai:List Int) (x9:Plan) (Af:(List (List Int))) (Aa:Int) (Ae:Int → Option (Bool)) (Ab:Int):Option (Bool) :=
  obind (ix x9.fCartons Aa) fun Ac=>bif (decide (Ab < ((Ac.fUnits.length:Int)))) then obind (ix x9.fCartons Aa) fun Aj=>obind (ix Ac.fUnits Ab) fun Ad=>obind (d_spec_l6Item fu r1 Ai Ad) fun Ag=>d_spec_l15Group_J3 fu Ae x9 Af Aa Ab Ag.1 else d_spec_l15Group_J1 fu Ah Aa
def d_spec_l15Group_L1 (fu:Nat) (Ac:Int → Option (Bool)) (r1:Request) (Ad:List Int) (x9:Plan) (Aa:(List (List Int))) (Ab:Int):Nat → Int → Option (Bool)
  | 0=>fun _=>none
  | n + 1=>d_spec_l15Group_L1_B fu Ac r1 Ad x9 Aa Ab (d_spec_l15Group_L1 fu Ac r1 Ad x9 Aa Ab n)
theorem d_spec_l15Group_L1_s (fu:Nat) (Ac:Int → Option (Bool)) (r1:Request) (Ad:List Int) (x9:Plan) (Aa:(List (List Int))) (Ab:Int) (n:Nat):d_spec_l15Group_L1 fu Ac r1 Ad x9 Aa Ab (n + 1) = d_spec_l15Group_L1_B fu Ac r1 Ad x9 Aa Ab (d_spec_l15Group_L1 fu Ac r1 Ad x9 Aa Ab n):=z

def d_spec_l15Group_L2_B (fu:Nat)  (r1:Request) (Ad:List Int) (x9:Plan) (Ab:(List (List Int))) (Ac:Int → Option (Bool)) (Aa:Int):Option (Bool) :=
  bif (decide (Aa < ((x9.fCartons.length:Int)))) then d_spec_l15Group_L1 fu Ac r1 Ad x9 Ab Aa fu 0 else some (true)
def d_spec_l15Group_L2 (fu:Nat)  (r1:Request) (Ab:List Int) (x9:Plan) (Aa:(List (List Int))):Nat → Int → Option (Bool)
  | 0=>fun _=>none
  | n + 1=>d_spec_l15Group_L2_B fu r1 Ab x9 Aa (d_spec_l15Group_L2 fu r1 Ab x9 Aa n)
theorem d_spec_l15Group_L2_s (fu:Nat)  (r1:Request) (Ab:List Int) (x9:Plan) (Aa:(List (List Int))) (n:Nat):d_spec_l15Group_L2 fu r1 Ab x9 Aa (n + 1) = d_spec_l15Group_L2_B fu r1 Ab x9 Aa (d_spec_l15Group_L2 fu r1 Ab x9 Aa n):=z

def d_spec_l15Group (fu:Nat) (r1:Request) (Ab:List Int) (x9:Plan):Option (Bool) :=
  obind (d_spec_GroupsOf fu r1) fun Aa=>d_spec_l15Group_L2 fu r1 Ab x9 Aa fu 0

def d_spec_Cheapest_J1 (fu:Nat) (k3:Typ → Bool → Int → Option (Typ × Bool)) (Ab:Int) (Aa:Typ) (Ac:Bool):Option (Typ × Bool) :=
  k3 Aa Ac (w64 (Ab + 1))

def d_spec_Cheapest_L1_B (fu:Nat)  (r1:Request) (Af:List Int) (k3:Typ → Bool → Int → Option (Typ × Bool)) (Ab:Typ) (Ad:Bool) (Aa:Int):Option (Typ × Bool) :=
  bif (decide (Aa < ((r1.fTypes.length:Int)))) then obind (ix r1.fTypes Aa) fun Ac=>obind (d_spec_Holds fu r1 Af Ac) fun Ae=>bif (!Ae) then d_spec_Cheapest_J1 fu k3 Aa Ab Ad else bif (!Ad) then d_spec_Cheapest_J1 fu k3 Aa Ac true else bif (decide (Ac.fCost < Ab.fCost)) then d_spec_Cheapest_J1 fu k3 Aa Ac true else bif (Ac.fCost == Ab.fCost) then bif (decide (Ac.fId < Ab.fId)) then d_spec_Cheapest_J1 fu k3 Aa Ac true else d_spec_Cheapest_J1 fu k3 Aa Ab Ad else d_spec_Cheapest_J1 fu k3 Aa Ab Ad else some (Ab,Ad)
def d_spec_Cheapest_L1 (fu:Nat)  (r1:Request) (Aa:List Int):Nat → Typ → Bool → Int → Option (Typ × Bool)
  | 0=>fun _ _ _=>none
  | n + 1=>d_spec_Cheapest_L1_B fu r1 Aa (d_spec_Cheapest_L1 fu r1 Aa n)
theorem d_spec_Cheapest_L1_s (fu:Nat)  (r1:Request) (Aa:List Int) (n:Nat):d_spec_Cheapest_L1 fu r1 Aa (n + 1) = d_spec_Cheapest_L1_B fu r1 Aa (d_spec_Cheapest_L1 fu r1 Aa n):=z

def d_spec_Cheapest (fu:Nat) (r1:Request) (Aa:List Int):Option (Typ × Bool) :=
  d_spec_Cheapest_L1 fu r1 Aa fu ((⟨0,0,0,0,0,0,0⟩:Typ)) false 0

def d_spec_l15Cheap_J1 (fu:Nat) (k7:Int → Option (Bool)) (Aa:Int)  : Option (Bool) :=
  k7 (w64 (Aa + 1))

def d_spec_l15Cheap_J2 (fu:Nat) (k7:Int → Option (Bool)) (x5:Plan) (Aa:Int) (Ad:Typ) (Ac:Bool):Option (Bool) :=
  bif (!Ac) then some (false) else obind (ix x5.fCartons Aa) fun Ab=>bif (Ad.fId != Ab.fType) then some (false) else d_spec_l15Cheap_J1 fu k7 Aa

def d_spec_l15Cheap_L1_B (fu:Nat)  (r1:Request) (x5:Plan) (k7:Int → Option (Bool)) (Aa:Int):Option (Bool) :=
  bif (decide (Aa < ((x5.fCartons.length:Int)))) then obind (ix x5.fCartons Aa) fun Ac=>obind (d_spec_Cheapest fu r1 Ac.fUnits) fun Ab=>d_spec_l15Cheap_J2 fu k7 x5 Aa Ab.1 Ab.2 else some (true)
def d_spec_l15Cheap_L1 (fu:Nat)  (r1:Request) (x5:Plan):Nat → Int → Option (Bool)
  | 0=>fun _=>none
  | n + 1=>d_spec_l15Cheap_L1_B fu r1 x5 (d_spec_l15Cheap_L1 fu r1 x5 n)
theorem d_spec_l15Cheap_L1_s (fu:Nat)  (r1:Request) (x5:Plan) (n:Nat):d_spec_l15Cheap_L1 fu r1 x5 (n + 1) = d_spec_l15Cheap_L1_B fu r1 x5 (d_spec_l15Cheap_L1 fu r1 x5 n):=z

def d_spec_l15Cheap (fu:Nat) (r1:Request) (x5:Plan):Option (Bool) :=
  d_spec_l15Cheap_L1 fu r1 x5 fu 0

def d_spec_Units (fu:Nat) (r1:Request):Option ((List Int)) :=
  obind (d_spec_Class fu r1) fun Ab=>bif (Ab != 0) then some (([]:List Int)) else obind (d_spec_l6Units fu r1) fun Aa=>some (Aa)

def d_spec_GramOf_J1 (fu:Nat) (k7:Int → Int → Option (Int)) (Aa:Int) (Ab:Int):Option (Int) :=
  k7 Ab (w64 (Aa + 1))

def d_spec_GramOf_J2 (fu:Nat) (k7:Int → Int → Option (Int)) (Ab:Int) (Aa:Int) (Ac:Item):Option (Int) :=
  d_spec_GramOf_J1 fu k7 Aa (w64 (Ab + Ac.fGram))

def d_spec_GramOf_L1_B (fu:Nat)  (r1:Request) (Ac:List Int) (Ae:(List Int)) (k7:Int → Int → Option (Int)) (Ab:Int) (Aa:Int):Option (Int) :=
  bif (decide (Aa < ((Ac.length:Int)))) then obind (ix Ac Aa) fun Ad=>obind (d_spec_l6Item fu r1 Ae Ad) fun Af=>d_spec_GramOf_J2 fu k7 Ab Aa Af.1 else some (Ab)
def d_spec_GramOf_L1 (fu:Nat)  (r1:Request) (Aa:List Int) (Ab:(List Int)):Nat → Int → Int → Option (Int)
  | 0=>fun _ _=>none
  | n + 1=>d_spec_GramOf_L1_B fu r1 Aa Ab (d_spec_GramOf_L1 fu r1 Aa Ab n)
theorem d_spec_GramOf_L1_s (fu:Nat)  (r1:Request) (Aa:List Int) (Ab:(List Int)) (n:Nat):d_spec_GramOf_L1 fu r1 Aa Ab (n + 1) = d_spec_GramOf_L1_B fu r1 Aa Ab (d_spec_GramOf_L1 fu r1 Aa Ab n):=z

def d_spec_GramOf (fu:Nat) (r1:Request) (Aa:List Int):Option (Int) :=
  obind (d_spec_Units fu r1) fun Ab=>d_spec_GramOf_L1 fu r1 Aa Ab fu 0 0

def d_spec_Gross_J1 (fu:Nat) (r1:Request) (x5:Carton) (Ab:Typ × Bool)  : Option (Int) :=
  obind (d_spec_GramOf fu r1 x5.fUnits) fun Aa=>some (w64 (Ab.1.fTare + Aa))

def d_spec_Gross (fu:Nat) (r1:Request) (x5:Carton):Option (Int) :=
  obind (d_spec_TypeById fu r1 x5.fType) fun Aa=>obind (d_spec_Class fu r1) fun Ab=>bif (Ab != 0) then some (0) else bif (!Aa.2) then some (0) else d_spec_Gross_J1 fu r1 x5 Aa

def d_spec_BoxOf_J1 (fu:Nat) (r1:Request) (x5:Carton) (Aa:Typ × Bool)  : Option (Box) :=
  obind (d_spec_Gross fu r1 x5) fun Ab=>some ((⟨Aa.1.fW,Aa.1.fD,Aa.1.fH,Ab⟩:Box))

def d_spec_BoxOf (fu:Nat) (r1:Request) (x5:Carton):Option (Box) :=
  obind (d_spec_TypeById fu r1 x5.fType) fun Aa=>obind (d_spec_Class fu r1) fun Ab=>bif (Ab != 0) then some ((⟨0,0,0,0⟩:Box)) else bif (!Aa.2) then some ((⟨0,0,0,0⟩:Box)) else d_spec_BoxOf_J1 fu r1 x5 Aa

def d_spec_l12Known (fu:Nat) (b1:Box) (Aa:Spot):Option (Bool) :=
  obind (d_spec_l1In fu b1.fW 0 2000) fun Af=>bif Af then obind (d_spec_l1In fu b1.fD 0 2000) fun Ae=>bif Ae then obind (d_spec_l1In fu b1.fH 0 2000) fun Ag=>bif Ag then obind (d_spec_l1In fu Aa.fX 0 2000) fun Ab=>bif Ab then obind (d_spec_l1In fu Aa.fY 0 2000) fun Ad=>bif Ad then obind (d_spec_l1In fu Aa.fZ 0 2000) fun Ac=>some (Ac) else some (false) else some (false) else some (false) else some (false) else some (false)

def d_spec_Within (fu:Nat) (p1:Pallet) (b2:Box) (Aa:Spot):Option (Bool) :=
  obind (d_spec_l12Known fu b2 Aa) fun Ab=>bif Ab then bif (decide (b2.fW > 0)) then bif (decide (b2.fD > 0)) then bif (decide (b2.fH > 0)) then bif (decide ((w64 (Aa.fX + b2.fW)) ≤ p1.fW)) then bif (decide ((w64 (Aa.fY + b2.fD)) ≤ p1.fD)) then some (decide ((w64 (Aa.fZ + b2.fH)) ≤ p1.fH)) else some (false) else some (false) else some (false) else some (false) else some (false) else some (false)

def d_spec_l15Inside_L1_B (fu:Nat)  (r1:Request) (x5:Plan) (k1:Int → Option (Bool)) (Aa:Int):Option (Bool) :=
  bif (decide (Aa < ((x5.fCartons.length:Int)))) then obind (ix x5.fCartons Aa) fun Ac=>obind (ix x5.fSpots Aa) fun Ad=>obind (d_spec_BoxOf fu r1 Ac) fun Ab=>obind (d_spec_Within fu r1.fPallet Ab Ad) fun Ae=>bif (!Ae) then some (false) else k1 (w64 (Aa + 1)) else some (true)
def d_spec_l15Inside_L1 (fu:Nat)  (r1:Request) (x5:Plan):Nat → Int → Option (Bool)
  | 0=>fun _=>none
  | n + 1=>d_spec_l15Inside_L1_B fu r1 x5 (d_spec_l15Inside_L1 fu r1 x5 n)
theorem d_spec_l15Inside_L1_s (fu:Nat)  (r1:Request) (x5:Plan) (n:Nat):d_spec_l15Inside_L1 fu r1 x5 (n + 1) = d_spec_l15Inside_L1_B fu r1 x5 (d_spec_l15Inside_L1 fu r1 x5 n):=z

def d_spec_l15Inside (fu:Nat) (r1:Request) (x5:Plan):Option (Bool) :=
  d_spec_l15Inside_L1 fu r1 x5 fu 0

def d_spec_l12Cross (fu:Nat) (a1:Int) (Ab:Int) (b3:Int) (Aa:Int):Option (Bool) :=
  bif (decide (a1 < (w64 (b3 + Aa)))) then some (decide (b3 < (w64 (a1 + Ab)))) else some (false)

def d_spec_Overlap (fu:Nat) (a1:Box) (Aa:Spot) (b3:Box) (t4:Spot):Option (Bool) :=
  obind (d_spec_l12Known fu a1 Aa) fun Ac=>bif Ac then obind (d_spec_l12Known fu b3 t4) fun Ad=>bif Ad then bif (Aa.fPallet == t4.fPallet) then obind (d_spec_l12Cross fu Aa.fX a1.fW t4.fX b3.fW) fun Ae=>bif Ae then obind (d_spec_l12Cross fu Aa.fY a1.fD t4.fY b3.fD) fun Ab=>bif Ab then obind (d_spec_l12Cross fu Aa.fZ a1.fH t4.fZ b3.fH) fun Af=>some (Af) else some (false) else some (false) else some (false) else some (false) else some (false)

def d_spec_l15Apart_L1_B (fu:Nat) (k3:Int → Option (Bool)) (r1:Request) (x5:Plan) (Ab:Int) (k4:Int → Option (Bool)) (Aa:Int):Option (Bool) :=
  bif (decide (Aa < Ab)) then obind (ix x5.fCartons Ab) fun Ae=>obind (ix x5.fSpots Ab) fun Ah=>obind (ix x5.fCartons Aa) fun Af=>obind (ix x5.fSpots Aa) fun Ai=>obind (d_spec_BoxOf fu r1 Ae) fun Ag=>obind (d_spec_BoxOf fu r1 Af) fun Ac=>obind (d_spec_Overlap fu Ag Ah Ac Ai) fun Ad=>bif Ad then some (false) else k4 (w64 (Aa + 1)) else k3 (w64 (Ab + 1))
def d_spec_l15Apart_L1 (fu:Nat) (k3:Int → Option (Bool)) (r1:Request) (x5:Plan) (Aa:Int):Nat → Int → Option (Bool)
  | 0=>fun _=>none
  | n + 1=>d_spec_l15Apart_L1_B fu k3 r1 x5 Aa (d_spec_l15Apart_L1 fu k3 r1 x5 Aa n)
theorem d_spec_l15Apart_L1_s (fu:Nat) (k3:Int → Option (Bool)) (r1:Request) (x5:Plan) (Aa:Int) (n:Nat):d_spec_l15Apart_L1 fu k3 r1 x5 Aa (n + 1) = d_spec_l15Apart_L1_B fu k3 r1 x5 Aa (d_spec_l15Apart_L1 fu k3 r1 x5 Aa n):=z

def d_spec_l15Apart_L2_B (fu:Nat)  (r1:Request) (x5:Plan) (k3:Int → Option (Bool)) (Aa:Int):Option (Bool) :=
  bif (decide (Aa < ((x5.fCartons.length:Int)))) then d_spec_l15Apart_L1 fu k3 r1 x5 Aa fu 0 else some (true)
def d_spec_l15Apart_L2 (fu:Nat)  (r1:Request) (x5:Plan):Nat → Int → Option (Bool)
  | 0=>fun _=>none
  | n + 1=>d_spec_l15Apart_L2_B fu r1 x5 (d_spec_l15Apart_L2 fu r1 x5 n)
theorem d_spec_l15Apart_L2_s (fu:Nat)  (r1:Request) (x5:Plan) (n:Nat):d_spec_l15Apart_L2 fu r1 x5 (n + 1) = d_spec_l15Apart_L2_B fu r1 x5 (d_spec_l15Apart_L2 fu r1 x5 n):=z

def d_spec_l15Apart (fu:Nat) (r1:Request) (x5:Plan):Option (Bool) :=
  d_spec_l15Apart_L2 fu r1 x5 fu 0

def d_spec_l1Max (fu:Nat) (a1:Int) (b2:Int):Option (Int) :=
  bif (decide (a1 > b2)) then some (a1) else some (b2)

def d_spec_Pallets_J1 (fu:Nat) (k3:Int → Int → Option (Int)) (Ab:Int) (Aa:Int):Option (Int) :=
  k3 Aa (w64 (Ab + 1))

def d_spec_Pallets_L1_B (fu:Nat)  (Ac:List Spot) (k3:Int → Int → Option (Int)) (Ab:Int) (Aa:Int):Option (Int) :=
  bif (decide (Aa < ((Ac.length:Int)))) then obind (ix Ac Aa) fun Ad=>obind (d_spec_l1In fu Ad.fPallet 0 999999) fun Af=>bif Af then obind (ix Ac Aa) fun Ag=>obind (d_spec_l1Max fu Ab (w64 (Ad.fPallet + 1))) fun Ae=>d_spec_Pallets_J1 fu k3 Aa Ae else d_spec_Pallets_J1 fu k3 Aa Ab else some (Ab)
def d_spec_Pallets_L1 (fu:Nat)  (Aa:List Spot):Nat → Int → Int → Option (Int)
  | 0=>fun _ _=>none
  | n + 1=>d_spec_Pallets_L1_B fu Aa (d_spec_Pallets_L1 fu Aa n)
theorem d_spec_Pallets_L1_s (fu:Nat)  (Aa:List Spot) (n:Nat):d_spec_Pallets_L1 fu Aa (n + 1) = d_spec_Pallets_L1_B fu Aa (d_spec_Pallets_L1 fu Aa n):=z

def d_spec_Pallets (fu:Nat) (Aa:List Spot):Option (Int) :=
  d_spec_Pallets_L1 fu Aa fu 0 0

def d_spec_OnPallet_J1 (fu:Nat) (k5:List Int → Int → Option ((List Int))) (Aa:Int) (Ab:List Int):Option ((List Int)) :=
  k5 Ab (w64 (Aa + 1))

def d_spec_OnPallet_J2 (fu:Nat) (k5:List Int → Int → Option ((List Int))) (x1:Plan) (Ad:Int) (Ab:List Int) (Aa:Int)  : Option ((List Int)) :=
  obind (ix x1.fSpots Aa) fun Ac=>bif (Ac.fPallet == Ad) then obind (apnd 8 Ab (([Aa]:List Int))) fun Ae=>d_spec_OnPallet_J1 fu k5 Aa Ae else d_spec_OnPallet_J1 fu k5 Aa Ab

def d_spec_OnPallet_L1_B (fu:Nat)  (x1:Plan) (Ac:Int) (k5:List Int → Int → Option ((List Int))) (Aa:List Int) (Ab:Int):Option ((List Int)) :=
  bif (decide (Ab < ((x1.fCartons.length:Int)))) then bif (((x1.fCartons.length:Int)) == ((x1.fSpots.length:Int))) then d_spec_OnPallet_J2 fu k5 x1 Ac Aa Ab else some (Aa) else some (Aa)
def d_spec_OnPallet_L1 (fu:Nat)  (x1:Plan) (Aa:Int):Nat → List Int → Int → Option ((List Int))
  | 0=>fun _ _=>none
  | n + 1=>d_spec_OnPallet_L1_B fu x1 Aa (d_spec_OnPallet_L1 fu x1 Aa n)
theorem d_spec_OnPallet_L1_s (fu:Nat)  (x1:Plan) (Aa:Int) (n:Nat):d_spec_OnPallet_L1 fu x1 Aa (n + 1) = d_spec_OnPallet_L1_B fu x1 Aa (d_spec_OnPallet_L1 fu x1 Aa n):=z

def d_spec_OnPallet (fu:Nat) (x1:Plan) (Aa:Int):Option ((List Int)) :=
  d_spec_OnPallet_L1 fu x1 Aa fu (([]:List Int)) 0

def d_spec_PalletGram_L1_B (fu:Nat)  (r1:Request) (x5:Plan) (Ab:(List Int)) (k1:Int → Int → Option (Int)) (Ac:Int) (Aa:Int):Option (Int) :=
  bif (decide (Aa < ((Ab.length:Int)))) then obind (ix Ab Aa) fun Ad=>obind (ix x5.fCartons Ad) fun Ae=>obind (d_spec_Gross fu r1 Ae) fun Af=>k1 (w64 (Ac + Af)) (w64 (Aa + 1)) else some (Ac)
def d_spec_PalletGram_L1 (fu:Nat)  (r1:Request) (x5:Plan) (Aa:(List Int)):Nat → Int → Int → Option (Int)
  | 0=>fun _ _=>none
  | n + 1=>d_spec_PalletGram_L1_B fu r1 x5 Aa (d_spec_PalletGram_L1 fu r1 x5 Aa n)
theorem d_spec_PalletGram_L1_s (fu:Nat)  (r1:Request) (x5:Plan) (Aa:(List Int)) (n:Nat):d_spec_PalletGram_L1 fu r1 x5 Aa (n + 1) = d_spec_PalletGram_L1_B fu r1 x5 Aa (d_spec_PalletGram_L1 fu r1 x5 Aa n):=z

def d_spec_PalletGram (fu:Nat) (r1:Request) (x5:Plan) (Aa:Int):Option (Int) :=
  obind (d_spec_OnPallet fu x5 Aa) fun Ab=>d_spec_PalletGram_L1 fu r1 x5 Ab fu 0 0

def d_spec_l15Pallets_J1 (fu:Nat) (Aa:Int → Option (Bool)) (Ab:Int)  : Option (Bool) :=
  Aa (w64 (Ab + 1))

def d_spec_l15Pallets_L1_B (fu:Nat) (Ah:Int → Option (Bool)) (x5:Plan) (Af:Int) (Aa:(List Int)) (Ac:Int → Option (Bool)) (Ab:Int):Option (Bool) :=
  bif (decide (Ab < ((Aa.length:Int)))) then obind (ix Aa Ab) fun Ae=>obind (ix x5.fCartons Ae) fun Ad=>obind (ix Aa 0) fun Ag=>obind (ix x5.fCartons Ag) fun Ai=>bif (Ad.fGroup != Ai.fGroup) then some (false) else Ac (w64 (Ab + 1)) else d_spec_l15Pallets_J1 fu Ah Af
def d_spec_l15Pallets_L1 (fu:Nat) (Aa:Int → Option (Bool)) (x5:Plan) (Ac:Int) (Ab:(List Int)):Nat → Int → Option (Bool)
  | 0=>fun _=>none
  | n + 1=>d_spec_l15Pallets_L1_B fu Aa x5 Ac Ab (d_spec_l15Pallets_L1 fu Aa x5 Ac Ab n)
theorem d_spec_l15Pallets_L1_s (fu:Nat) (Aa:Int → Option (Bool)) (x5:Plan) (Ac:Int) (Ab:(List Int)) (n:Nat):d_spec_l15Pallets_L1 fu Aa x5 Ac Ab (n + 1) = d_spec_l15Pallets_L1_B fu Aa x5 Ac Ab (d_spec_l15Pallets_L1 fu Aa x5 Ac Ab n):=z

def d_spec_l15Pallets_J2 (fu:Nat) (Aa:Int → Option (Bool)) (x5:Plan) (Ac:Int) (Ab:(List Int))  : Option (Bool) :=
  d_spec_l15Pallets_L1 fu Aa x5 Ac Ab fu 1

def d_spec_l15Pallets_L2_B (fu:Nat)  (r1:Request) (x5:Plan) (Ad:Int) (Ae:Int → Option (Bool)) (Aa:Int):Option (Bool) :=
  bif (decide (Aa < Ad)) then obind (d_spec_OnPallet fu x5 Aa) fun Ab=>bif (((Ab.length:Int)) == 0) then some (false) else obind (d_spec_PalletGram fu r1 x5 Aa) fun Ac=>bif (decide (Ac > r1.fPallet.fGram)) then some (false) else d_spec_l15Pallets_J2 fu Ae x5 Aa Ab else some (true)
def d_spec_l15Pallets_L2 (fu:Nat)  (r1:Request) (x5:Plan) (Aa:Int):Nat → Int → Option (Bool)
  | 0=>fun _=>none
  | n + 1=>d_spec_l15Pallets_L2_B fu r1 x5 Aa (d_spec_l15Pallets_L2 fu r1 x5 Aa n)
theorem d_spec_l15Pallets_L2_s (fu:Nat)  (r1:Request) (x5:Plan) (Aa:Int) (n:Nat):d_spec_l15Pallets_L2 fu r1 x5 Aa (n + 1) = d_spec_l15Pallets_L2_B fu r1 x5 Aa (d_spec_l15Pallets_L2 fu r1 x5 Aa n):=z

def d_spec_l15Pallets (fu:Nat) (r1:Request) (x5:Plan):Option (Bool) :=
  obind (d_spec_Pallets fu x5.fSpots) fun Aa=>d_spec_l15Pallets_L2 fu r1 x5 Aa fu 0

def d_spec_Check_J1 (fu:Nat) (r1:Request) (x5:Plan)  : Option (Int) :=
  obind (d_spec_l6Units fu r1) fun Aa=>obind (d_spec_l15Units fu Aa x5) fun Ah=>bif (!Ah) then some (3) else obind (d_spec_l15Holds fu r1 x5) fun Ae=>bif (!Ae) then some (4) else obind (d_spec_l15Group fu r1 Aa x5) fun Ac=>bif (!Ac) then some (5) else obind (d_spec_l15Cheap fu r1 x5) fun Ab=>bif (!Ab) then some (6) else obind (d_spec_l15Inside fu r1 x5) fun Ag=>bif (!Ag) then some (7) else obind (d_spec_l15Apart fu r1 x5) fun Ad=>bif (!Ad) then some (8) else obind (d_spec_l15Pallets fu r1 x5) fun Af=>bif (!Af) then some (9) else some (0)

def d_spec_Check (fu:Nat) (r1:Request) (x5:Plan):Option (Int) :=
  obind (d_spec_Class fu r1) fun Ab=>bif (Ab != 0) then some (1) else obind (d_spec_PlanOk fu x5) fun Ac=>bif (!Ac) then some (2) else obind (d_spec_l15Empty fu x5) fun Aa=>bif Aa then some (2) else d_spec_Check_J1 fu r1 x5

def d_spec_Feasible (fu:Nat) (r1:Request) (x5:Plan):Option (Bool) :=
  obind (d_spec_Check fu r1 x5) fun Aa=>some (Aa == 0)

def d_impl_TypeById_1 (fu:Nat) (t1:Typ) (x2:Int):Option (Bool) :=
  some (t1.fId == x2)

def d_slices_IndexFunc_impl_Type_impl_Type_L1_B (fu:Nat)  (Ab:List Typ) (f5:Typ → Option Bool) (k1:Int → Option (Int)) (Aa:Int):Option (Int) :=
  bif (decide (Aa < ((Ab.length:Int)))) then obind (ix Ab Aa) fun Ac=>obind (f5 Ac) fun Ad=>bif Ad then some (Aa) else k1 (w64 (Aa + 1)) else some ((-1))
def d_slices_IndexFunc_impl_Type_impl_Type_L1 (fu:Nat)  (Aa:List Typ) (f5:Typ → Option Bool):Nat → Int → Option (Int)
  | 0=>fun _=>none
  | n + 1=>d_slices_IndexFunc_impl_Type_impl_Type_L1_B fu Aa f5 (d_slices_IndexFunc_impl_Type_impl_Type_L1 fu Aa f5 n)
theorem d_slices_IndexFunc_impl_Type_impl_Type_L1_s (fu:Nat)  (Aa:List Typ) (f5:Typ → Option Bool) (n:Nat):d_slices_IndexFunc_impl_Type_impl_Type_L1 fu Aa f5 (n + 1) = d_slices_IndexFunc_impl_Type_impl_Type_L1_B fu Aa f5 (d_slices_IndexFunc_impl_Type_impl_Type_L1 fu Aa f5 n):=z

def d_slices_IndexFunc_impl_Type_impl_Type (fu:Nat) (Aa:List Typ) (f5:Typ → Option Bool):Option (Int) :=
  d_slices_IndexFunc_impl_Type_impl_Type_L1 fu Aa f5 fu 0

def d_impl_TypeById (fu:Nat) (r1:Request) (Ac:Int):Option (Typ × Bool) :=
  obind (d_slices_IndexFunc_impl_Type_impl_Type fu r1.fTypes (fun Ad=>d_impl_TypeById_1 fu Ad Ac)) fun Aa=>bif (decide (Aa < 0)) then some ((⟨0,0,0,0,0,0,0⟩:Typ),false) else obind (ix r1.fTypes Aa) fun Ab=>some (Ab,true)

def d_impl_MasterOf (fu:Nat) (r1:Request):Option (Typ × Bool) :=
  obind (d_impl_TypeById fu r1 r1.fMaster) fun Aa=>some (Aa.1,Aa.2)

def d_impl_in (fu:Nat) (n1:Int) (Ab:Int) (Aa:Int):Option (Bool) :=
  bif (decide (n1 ≥ Ab)) then some (decide (n1 ≤ Aa)) else some (false)

def d_impl_isSide (fu:Nat) (n1:Int):Option (Bool) :=
  obind (d_impl_in fu n1 1 2000) fun x2=>some (x2)

def d_impl_PalletOk (fu:Nat) (x1:Pallet):Option (Bool) :=
  obind (d_impl_isSide fu x1.fW) fun x5=>bif x5 then obind (d_impl_isSide fu x1.fD) fun Aa=>bif Aa then obind (d_impl_isSide fu x1.fH) fun Ab=>bif Ab then obind (d_impl_in fu x1.fGram 1 100000) fun Ac=>some (Ac) else some (false) else some (false) else some (false)

def d_slices_IndexFunc_impl_Pair_impl_Pair_L1_B (fu:Nat)  (Ab:List Pair) (f5:Pair → Option Bool) (k1:Int → Option (Int)) (Aa:Int):Option (Int) :=
  bif (decide (Aa < ((Ab.length:Int)))) then obind (ix Ab Aa) fun Ac=>obind (f5 Ac) fun Ad=>bif Ad then some (Aa) else k1 (w64 (Aa + 1)) else some ((-1))
def d_slices_IndexFunc_impl_Pair_impl_Pair_L1 (fu:Nat)  (Aa:List Pair) (f5:Pair → Option Bool):Nat → Int → Option (Int)
  | 0=>fun _=>none
  | n + 1=>d_slices_IndexFunc_impl_Pair_impl_Pair_L1_B fu Aa f5 (d_slices_IndexFunc_impl_Pair_impl_Pair_L1 fu Aa f5 n)
theorem d_slices_IndexFunc_impl_Pair_impl_Pair_L1_s (fu:Nat)  (Aa:List Pair) (f5:Pair → Option Bool) (n:Nat):d_slices_IndexFunc_impl_Pair_impl_Pair_L1 fu Aa f5 (n + 1) = d_slices_IndexFunc_impl_Pair_impl_Pair_L1_B fu Aa f5 (d_slices_IndexFunc_impl_Pair_impl_Pair_L1 fu Aa f5 n):=z

def d_slices_IndexFunc_impl_Pair_impl_Pair (fu:Nat) (Aa:List Pair) (f5:Pair → Option Bool):Option (Int) :=
  d_slices_IndexFunc_impl_Pair_impl_Pair_L1 fu Aa f5 fu 0

def d_slices_ContainsFunc_impl_Pair_impl_Pair (fu:Nat) (Ab:List Pair) (f5:Pair → Option Bool):Option (Bool) :=
  obind (d_slices_IndexFunc_impl_Pair_impl_Pair fu Ab f5) fun Aa=>some (decide (Aa ≥ 0))

def d_impl_BoundsOk_1 (fu:Nat) (p1:Pair):Option (Bool) :=
  obind (d_impl_in fu p1.fA 0 3) fun x5=>bif (!x5) then some (true) else obind (d_impl_in fu p1.fB 0 3) fun Aa=>some (!Aa)

def d_slices_ContainsFunc_impl_Type_impl_Type (fu:Nat) (Ab:List Typ) (f5:Typ → Option Bool):Option (Bool) :=
  obind (d_slices_IndexFunc_impl_Type_impl_Type fu Ab f5) fun Aa=>some (decide (Aa ≥ 0))

def d_impl_TypeOk (fu:Nat) (x1:Typ):Option (Bool) :=
  obind (d_impl_in fu x1.fId 0 999) fun x5=>bif x5 then obind (d_impl_isSide fu x1.fW) fun Ab=>bif Ab then obind (d_impl_isSide fu x1.fH) fun Ac=>bif Ac then obind (d_impl_isSide fu x1.fD) fun Ad=>bif Ad then obind (d_impl_in fu x1.fTare 0 100000) fun Ae=>bif Ae then obind (d_impl_in fu x1.fGram 1 100000) fun Aa=>bif Aa then obind (d_impl_in fu x1.fCost 0 100000) fun Af=>some (Af) else some (false) else some (false) else some (false) else some (false) else some (false) else some (false)

def d_impl_BoundsOk_2 (fu:Nat) (t1:Typ):Option (Bool) :=
  obind (d_impl_TypeOk fu t1) fun x5=>some (!x5)

def d_impl_ItemOk (fu:Nat) (x1:Item):Option (Bool) :=
  obind (d_impl_in fu x1.fId 0 999) fun x5=>bif x5 then obind (d_impl_isSide fu x1.fW) fun Ab=>bif Ab then obind (d_impl_isSide fu x1.fH) fun Ac=>bif Ac then obind (d_impl_isSide fu x1.fD) fun Ad=>bif Ad then obind (d_impl_in fu x1.fGram 1 100000) fun Ae=>bif Ae then obind (d_impl_in fu x1.fClass 0 3) fun Aa=>bif Aa then obind (d_impl_in fu x1.fCount 1 6) fun Af=>some (Af) else some (false) else some (false) else some (false) else some (false) else some (false) else some (false)

def d_impl_BoundsOk_L1_B (fu:Nat)  (r1:Request) (k3:Int → Int → Option (Bool)) (Ac:Int) (Aa:Int):Option (Bool) :=
  bif (decide (Aa < ((r1.fItems.length:Int)))) then obind (ix r1.fItems Aa) fun Ab=>obind (d_impl_ItemOk fu Ab) fun Ad=>bif (!Ad) then some (false) else k3 (w64 (Ac + Ab.fCount)) (w64 (Aa + 1)) else some (decide (Ac ≤ 12))
def d_impl_BoundsOk_L1 (fu:Nat)  (r1:Request):Nat → Int → Int → Option (Bool)
  | 0=>fun _ _=>none
  | n + 1=>d_impl_BoundsOk_L1_B fu r1 (d_impl_BoundsOk_L1 fu r1 n)
theorem d_impl_BoundsOk_L1_s (fu:Nat)  (r1:Request) (n:Nat):d_impl_BoundsOk_L1 fu r1 (n + 1) = d_impl_BoundsOk_L1_B fu r1 (d_impl_BoundsOk_L1 fu r1 n):=z

def d_impl_BoundsOk_J1 (fu:Nat) (r1:Request)  : Option (Bool) :=
  d_impl_BoundsOk_L1 fu r1 fu 0 0

def d_impl_BoundsOk_J2 (fu:Nat) (r1:Request)  : Option (Bool) :=
  obind (d_slices_ContainsFunc_impl_Pair_impl_Pair fu r1.fPairs (fun Ad=>d_impl_BoundsOk_1 fu Ad)) fun Af=>bif Af then some (false) else obind (d_impl_in fu ((r1.fTypes.length:Int)) 1 5) fun Ae=>bif (!Ae) then some (false) else obind (d_slices_ContainsFunc_impl_Type_impl_Type fu r1.fTypes (fun Aa=>d_impl_BoundsOk_2 fu Aa)) fun Ac=>bif Ac then some (false) else obind (d_impl_in fu r1.fMaster 0 999) fun Ab=>bif (!Ab) then some (false) else bif (decide (((r1.fItems.length:Int)) > 8)) then some (false) else d_impl_BoundsOk_J1 fu r1

def d_impl_BoundsOk (fu:Nat) (r1:Request):Option (Bool) :=
  obind (d_impl_in fu r1.fWay 0 1) fun Ab=>bif (!Ab) then some (false) else obind (d_impl_PalletOk fu r1.fPallet) fun Aa=>bif (!Aa) then some (false) else obind (d_impl_in fu r1.fClasses 1 4) fun Ac=>bif (!Ac) then some (false) else bif (decide (((r1.fPairs.length:Int)) > 16)) then some (false) else d_impl_BoundsOk_J2 fu r1

def d_impl_namesOk_1 (fu:Nat) (q1:Typ) (x2:Typ):Option (Bool) :=
  some (q1.fId == x2.fId)

def d_impl_namesOk_2 (fu:Nat) (q1:Item) (x2:Item):Option (Bool) :=
  some (q1.fId == x2.fId)

def d_slices_IndexFunc_impl_Item_impl_Item_L1_B (fu:Nat)  (Ab:List Item) (f5:Item → Option Bool) (k1:Int → Option (Int)) (Aa:Int):Option (Int) :=
  bif (decide (Aa < ((Ab.length:Int)))) then obind (ix Ab Aa) fun Ac=>obind (f5 Ac) fun Ad=>bif Ad then some (Aa) else k1 (w64 (Aa + 1)) else some ((-1))
def d_slices_IndexFunc_impl_Item_impl_Item_L1 (fu:Nat)  (Aa:List Item) (f5:Item → Option Bool):Nat → Int → Option (Int)
  | 0=>fun _=>none
  | n + 1=>d_slices_IndexFunc_impl_Item_impl_Item_L1_B fu Aa f5 (d_slices_IndexFunc_impl_Item_impl_Item_L1 fu Aa f5 n)
theorem d_slices_IndexFunc_impl_Item_impl_Item_L1_s (fu:Nat)  (Aa:List Item) (f5:Item → Option Bool) (n:Nat):d_slices_IndexFunc_impl_Item_impl_Item_L1 fu Aa f5 (n + 1) = d_slices_IndexFunc_impl_Item_impl_Item_L1_B fu Aa f5 (d_slices_IndexFunc_impl_Item_impl_Item_L1 fu Aa f5 n):=z

def d_slices_IndexFunc_impl_Item_impl_Item (fu:Nat) (Aa:List Item) (f5:Item → Option Bool):Option (Int) :=
  d_slices_IndexFunc_impl_Item_impl_Item_L1 fu Aa f5 fu 0

def d_slices_ContainsFunc_impl_Item_impl_Item (fu:Nat) (Ab:List Item) (f5:Item → Option Bool):Option (Bool) :=
  obind (d_slices_IndexFunc_impl_Item_impl_Item fu Ab f5) fun Aa=>some (decide (Aa ≥ 0))

def d_impl_namesOk_3 (fu:Nat) (p1:Pair) (x2:Request):Option (Bool) :=
  bif (decide (p1.fA ≥ x2.fClasses)) then some (true) else some (decide (p1.fB ≥ x2.fClasses))

def d_impl_namesOk_J1 (fu:Nat) (k4:Int → Option (Bool)) (Aa:Int)  : Option (Bool) :=
  k4 (w64 (Aa + 1))

def d_impl_namesOk_L1_B (fu:Nat)  (r1:Request) (k4:Int → Option (Bool)) (Aa:Int):Option (Bool) :=
  bif (decide (Aa < ((r1.fItems.length:Int)))) then obind (ix r1.fItems Aa) fun Ab=>bif (decide (Ab.fClass ≥ r1.fClasses)) then some (false) else obind (sls r1.fItems 0 Aa) fun Af=>obind (d_slices_ContainsFunc_impl_Item_impl_Item fu Af (fun Ad=>d_impl_namesOk_2 fu Ad Ab)) fun Ae=>bif Ae then some (false) else d_impl_namesOk_J1 fu k4 Aa else obind (d_impl_MasterOf fu r1) fun Ah=>bif Ah.2 then obind (d_slices_ContainsFunc_impl_Pair_impl_Pair fu r1.fPairs (fun Ag=>d_impl_namesOk_3 fu Ag r1)) fun Ac=>some (!Ac) else some (false)
def d_impl_namesOk_L1 (fu:Nat)  (r1:Request):Nat → Int → Option (Bool)
  | 0=>fun _=>none
  | n + 1=>d_impl_namesOk_L1_B fu r1 (d_impl_namesOk_L1 fu r1 n)
theorem d_impl_namesOk_L1_s (fu:Nat)  (r1:Request) (n:Nat):d_impl_namesOk_L1 fu r1 (n + 1) = d_impl_namesOk_L1_B fu r1 (d_impl_namesOk_L1 fu r1 n):=z

def d_impl_namesOk_L2_B (fu:Nat)  (r1:Request) (k1:Int → Option (Bool)) (Aa:Int):Option (Bool) :=
  bif (decide (Aa < ((r1.fTypes.length:Int)))) then obind (ix r1.fTypes Aa) fun Ab=>obind (sls r1.fTypes 0 Aa) fun Ac=>obind (d_slices_ContainsFunc_impl_Type_impl_Type fu Ac (fun Ae=>d_impl_namesOk_1 fu Ae Ab)) fun Ad=>bif Ad then some (false) else k1 (w64 (Aa + 1)) else d_impl_namesOk_L1 fu r1 fu 0
def d_impl_namesOk_L2 (fu:Nat)  (r1:Request):Nat → Int → Option (Bool)
  | 0=>fun _=>none
  | n + 1=>d_impl_namesOk_L2_B fu r1 (d_impl_namesOk_L2 fu r1 n)
theorem d_impl_namesOk_L2_s (fu:Nat)  (r1:Request) (n:Nat):d_impl_namesOk_L2 fu r1 (n + 1) = d_impl_namesOk_L2_B fu r1 (d_impl_namesOk_L2 fu r1 n):=z

def d_impl_namesOk (fu:Nat) (r1:Request):Option (Bool) :=
  d_impl_namesOk_L2 fu r1 fu 0

def d_slices_Index_impl_Pair_impl_Pair_L1_B (fu:Nat)  (Ab:List Pair) (v5:Pair) (k1:Int → Option (Int)) (Aa:Int):Option (Int) :=
  bif (decide (Aa < ((Ab.length:Int)))) then obind (ix Ab Aa) fun Ac=>bif (decide (v5 = Ac)) then some (Aa) else k1 (w64 (Aa + 1)) else some ((-1))
def d_slices_Index_impl_Pair_impl_Pair_L1 (fu:Nat)  (Aa:List Pair) (v5:Pair):Nat → Int → Option (Int)
  | 0=>fun _=>none
  | n + 1=>d_slices_Index_impl_Pair_impl_Pair_L1_B fu Aa v5 (d_slices_Index_impl_Pair_impl_Pair_L1 fu Aa v5 n)
theorem d_slices_Index_impl_Pair_impl_Pair_L1_s (fu:Nat)  (Aa:List Pair) (v5:Pair) (n:Nat):d_slices_Index_impl_Pair_impl_Pair_L1 fu Aa v5 (n + 1) = d_slices_Index_impl_Pair_impl_Pair_L1_B fu Aa v5 (d_slices_Index_impl_Pair_impl_Pair_L1 fu Aa v5 n):=z

def d_slices_Index_impl_Pair_impl_Pair (fu:Nat) (Aa:List Pair) (v5:Pair):Option (Int) :=
  d_slices_Index_impl_Pair_impl_Pair_L1 fu Aa v5 fu 0

def d_slices_Contains_impl_Pair_impl_Pair (fu:Nat) (Ab:List Pair) (v5:Pair):Option (Bool) :=
  obind (d_slices_Index_impl_Pair_impl_Pair fu Ab v5) fun Aa=>some (decide (Aa ≥ 0))

def d_impl_Beside (fu:Nat) (Aa:List Pair) (a5:Int) (b6:Int):Option (Bool) :=
  obind (d_slices_Contains_impl_Pair_impl_Pair fu Aa ((⟨a5,b6⟩:Pair))) fun x7=>some (x7)

def d_impl_TableOk_L1_B (fu:Nat) (k3:Int → Option (Bool)) (Ac:List Pair) (Ad:Int) (Ab:Int) (k4:Int → Option (Bool)) (Aa:Int):Option (Bool) :=
  bif (decide (Aa < Ad)) then obind (d_impl_Beside fu Ac Ab Aa) fun Af=>obind (d_impl_Beside fu Ac Aa Ab) fun Ae=>bif (!(Af == Ae)) then some (false) else k4 (w64 (Aa + 1)) else k3 (w64 (Ab + 1))
def d_impl_TableOk_L1 (fu:Nat) (k3:Int → Option (Bool)) (Ac:List Pair) (Ab:Int) (Aa:Int):Nat → Int → Option (Bool)
  | 0=>fun _=>none
  | n + 1=>d_impl_TableOk_L1_B fu k3 Ac Ab Aa (d_impl_TableOk_L1 fu k3 Ac Ab Aa n)
theorem d_impl_TableOk_L1_s (fu:Nat) (k3:Int → Option (Bool)) (Ac:List Pair) (Ab:Int) (Aa:Int) (n:Nat):d_impl_TableOk_L1 fu k3 Ac Ab Aa (n + 1) = d_impl_TableOk_L1_B fu k3 Ac Ab Aa (d_impl_TableOk_L1 fu k3 Ac Ab Aa n):=z

def d_impl_TableOk_L2_B (fu:Nat)  (Ac:List Pair) (Ab:Int) (k3:Int → Option (Bool)) (Aa:Int):Option (Bool) :=
  bif (decide (Aa < Ab)) then obind (d_impl_Beside fu Ac Aa Aa) fun Ad=>bif (!Ad) then some (false) else d_impl_TableOk_L1 fu k3 Ac Ab Aa fu 0 else some (true)
def d_impl_TableOk_L2 (fu:Nat)  (Ab:List Pair) (Aa:Int):Nat → Int → Option (Bool)
  | 0=>fun _=>none
  | n + 1=>d_impl_TableOk_L2_B fu Ab Aa (d_impl_TableOk_L2 fu Ab Aa n)
theorem d_impl_TableOk_L2_s (fu:Nat)  (Ab:List Pair) (Aa:Int) (n:Nat):d_impl_TableOk_L2 fu Ab Aa (n + 1) = d_impl_TableOk_L2_B fu Ab Aa (d_impl_TableOk_L2 fu Ab Aa n):=z

def d_impl_TableOk (fu:Nat) (Ab:List Pair) (Aa:Int):Option (Bool) :=
  obind (d_impl_in fu Aa 1 4) fun x6=>bif (!x6) then some (false) else d_impl_TableOk_L2 fu Ab Aa fu 0

def d_slices_Sort_int_int (fu:Nat) (x1:List Int):Option (List Int):=sortI x1

def d_impl_Fits_J1 (fu:Nat) (x1:Item) (t2:Typ) (Ai:List Int) (Ad:List Int):Option (Bool) :=
  obind (d_slices_Sort_int_int fu Ai) fun Ab=>obind (d_slices_Sort_int_int fu Ad) fun Aa=>obind (ix Ab 0) fun Ac=>obind (ix Aa 0) fun Ag=>bif (decide (Ac ≤ Ag)) then obind (ix Ab 1) fun Af=>obind (ix Aa 1) fun Ae=>bif (decide (Af ≤ Ae)) then obind (ix Ab 2) fun Aj=>obind (ix Aa 2) fun Ah=>bif (decide (Aj ≤ Ah)) then some (decide (x1.fGram ≤ t2.fGram)) else some (false) else some (false) else some (false)

def d_impl_Fits (fu:Nat) (x1:Item) (t2:Typ):Option (Bool) :=
  d_impl_Fits_J1 fu x1 t2 (([x1.fW,x1.fH,x1.fD]:List Int)) (([t2.fW,t2.fH,t2.fD]:List Int))

def d_impl_Class_1 (fu:Nat) (x1:Item) (x2:Typ):Option (Bool) :=
  obind (d_impl_Fits fu x1 x2) fun x8=>some (!x8)

def d_impl_Class_2 (fu:Nat) (t1:Typ) (x2:Pallet):Option (Bool) :=
  bif (decide (t1.fW > x2.fW)) then some (true) else bif (decide (t1.fD > x2.fD)) then some (true) else bif (decide (t1.fH > x2.fH)) then some (true) else some (decide ((w64 (t1.fTare + t1.fGram)) > x2.fGram))

def d_impl_Class (fu:Nat) (r1:Request):Option (Int) :=
  obind (d_impl_MasterOf fu r1) fun Ah=>obind (d_impl_BoundsOk fu r1) fun Aa=>bif (!Aa) then some (2) else obind (d_impl_namesOk fu r1) fun Af=>bif (!Af) then some (3) else obind (d_impl_TableOk fu r1.fPairs r1.fClasses) fun Ad=>bif (!Ad) then some (4) else obind (d_slices_ContainsFunc_impl_Item_impl_Item fu r1.fItems (fun Ag=>d_impl_Class_1 fu Ag Ah.1)) fun Ac=>bif Ac then some (5) else obind (d_slices_ContainsFunc_impl_Type_impl_Type fu r1.fTypes (fun Ae=>d_impl_Class_2 fu Ae r1.fPallet)) fun Ab=>bif Ab then some (6) else some (0)

def d_impl_sound (fu:Nat) (r1:Request):Option (Bool) :=
  obind (d_impl_Class fu r1) fun Aa=>some (Aa == 0)

def d_impl_unitsRight_J1 (fu:Nat) (k3:Int → Option (Bool)) (Aa:Int)  : Option (Bool) :=
  k3 (w64 (Aa + 1))

def d_impl_unitsRight_L1_B (fu:Nat)  (Ab:List Int) (k3:Int → Option (Bool)) (Aa:Int):Option (Bool) :=
  bif (decide (Aa < ((Ab.length:Int)))) then obind (ix Ab Aa) fun Ac=>obind (d_impl_in fu Ac 0 999) fun Ad=>bif (!Ad) then some (false) else bif (decide (Aa > 0)) then obind (ix Ab (w64 (Aa - 1))) fun Ae=>bif (decide (Ae ≥ Ac)) then some (false) else d_impl_unitsRight_J1 fu k3 Aa else d_impl_unitsRight_J1 fu k3 Aa else some (decide (((Ab.length:Int)) ≤ 100))
def d_impl_unitsRight_L1 (fu:Nat)  (Aa:List Int):Nat → Int → Option (Bool)
  | 0=>fun _=>none
  | n + 1=>d_impl_unitsRight_L1_B fu Aa (d_impl_unitsRight_L1 fu Aa n)
theorem d_impl_unitsRight_L1_s (fu:Nat)  (Aa:List Int) (n:Nat):d_impl_unitsRight_L1 fu Aa (n + 1) = d_impl_unitsRight_L1_B fu Aa (d_impl_unitsRight_L1 fu Aa n):=z

def d_impl_unitsRight (fu:Nat) (Aa:List Int):Option (Bool) :=
  d_impl_unitsRight_L1 fu Aa fu 0

def d_impl_isPlace (fu:Nat) (n1:Int):Option (Bool) :=
  obind (d_impl_in fu n1 0 2000) fun x2=>some (x2)

def d_impl_PlanOk_J1 (fu:Nat) (k4:Int → Option (Bool)) (Aa:Int)  : Option (Bool) :=
  k4 (w64 (Aa + 1))

def d_impl_PlanOk_L1_B (fu:Nat)  (x1:Plan) (k4:Int → Option (Bool)) (Aa:Int):Option (Bool) :=
  bif (decide (Aa < ((x1.fCartons.length:Int)))) then obind (ix x1.fCartons Aa) fun Ac=>obind (ix x1.fSpots Aa) fun Ab=>obind (d_impl_in fu Ac.fType 0 999) fun Ag=>bif (!Ag) then some (false) else obind (d_impl_in fu Ac.fGroup 0 3) fun Ae=>bif (!Ae) then some (false) else obind (d_impl_unitsRight fu Ac.fUnits) fun Af=>bif (!Af) then some (false) else obind (d_impl_isPlace fu Ab.fPallet) fun Aj=>bif (!Aj) then some (false) else obind (d_impl_isPlace fu Ab.fX) fun Ad=>bif (!Ad) then some (false) else obind (d_impl_isPlace fu Ab.fY) fun Ah=>bif (!Ah) then some (false) else obind (d_impl_isPlace fu Ab.fZ) fun Ai=>bif (!Ai) then some (false) else d_impl_PlanOk_J1 fu k4 Aa else some (true)
def d_impl_PlanOk_L1 (fu:Nat)  (x1:Plan):Nat → Int → Option (Bool)
  | 0=>fun _=>none
  | n + 1=>d_impl_PlanOk_L1_B fu x1 (d_impl_PlanOk_L1 fu x1 n)
theorem d_impl_PlanOk_L1_s (fu:Nat)  (x1:Plan) (n:Nat):d_impl_PlanOk_L1 fu x1 (n + 1) = d_impl_PlanOk_L1_B fu x1 (d_impl_PlanOk_L1 fu x1 n):=z

def d_impl_PlanOk_J2 (fu:Nat) (x1:Plan)  : Option (Bool) :=
  d_impl_PlanOk_L1 fu x1 fu 0

def d_impl_PlanOk (fu:Nat) (x1:Plan):Option (Bool) :=
  bif (((x1.fSpots.length:Int)) != ((x1.fCartons.length:Int))) then some (false) else bif (decide (((x1.fCartons.length:Int)) > 100)) then some (false) else d_impl_PlanOk_J2 fu x1

def d_slices_IndexFunc_impl_Carton_impl_Carton_L1_B (fu:Nat)  (Ab:List Carton) (f5:Carton → Option Bool) (k1:Int → Option (Int)) (Aa:Int):Option (Int) :=
  bif (decide (Aa < ((Ab.length:Int)))) then obind (ix Ab Aa) fun Ad=>obind (f5 Ad) fun Ac=>bif Ac then some (Aa) else k1 (w64 (Aa + 1)) else some ((-1))
def d_slices_IndexFunc_impl_Carton_impl_Carton_L1 (fu:Nat)  (Aa:List Carton) (f5:Carton → Option Bool):Nat → Int → Option (Int)
  | 0=>fun _=>none
  | n + 1=>d_slices_IndexFunc_impl_Carton_impl_Carton_L1_B fu Aa f5 (d_slices_IndexFunc_impl_Carton_impl_Carton_L1 fu Aa f5 n)
theorem d_slices_IndexFunc_impl_Carton_impl_Carton_L1_s (fu:Nat)  (Aa:List Carton) (f5:Carton → Option Bool) (n:Nat):d_slices_IndexFunc_impl_Carton_impl_Carton_L1 fu Aa f5 (n + 1) = d_slices_IndexFunc_impl_Carton_impl_Carton_L1_B fu Aa f5 (d_slices_IndexFunc_impl_Carton_impl_Carton_L1 fu Aa f5 n):=z

def d_slices_IndexFunc_impl_Carton_impl_Carton (fu:Nat) (Aa:List Carton) (f5:Carton → Option Bool):Option (Int) :=
  d_slices_IndexFunc_impl_Carton_impl_Carton_L1 fu Aa f5 fu 0

def d_slices_ContainsFunc_impl_Carton_impl_Carton (fu:Nat) (Ab:List Carton) (f5:Carton → Option Bool):Option (Bool) :=
  obind (d_slices_IndexFunc_impl_Carton_impl_Carton fu Ab f5) fun Aa=>some (decide (Aa ≥ 0))

def d_impl_Check_1 (fu:Nat) (c1:Carton):Option (Bool) :=
  some (((c1.fUnits.length:Int)) == 0)

def d_impl_allUnits_L1_B (fu:Nat)  (x1:Plan) (k1:List Int → Int → Option ((List Int))) (Ab:List Int) (Aa:Int):Option ((List Int)) :=
  bif (decide (Aa < ((x1.fCartons.length:Int)))) then obind (ix x1.fCartons Aa) fun Ad=>obind (apnd 8 Ab Ad.fUnits) fun Ac=>k1 Ac (w64 (Aa + 1)) else some (Ab)
def d_impl_allUnits_L1 (fu:Nat)  (x1:Plan):Nat → List Int → Int → Option ((List Int))
  | 0=>fun _ _=>none
  | n + 1=>d_impl_allUnits_L1_B fu x1 (d_impl_allUnits_L1 fu x1 n)
theorem d_impl_allUnits_L1_s (fu:Nat)  (x1:Plan) (n:Nat):d_impl_allUnits_L1 fu x1 (n + 1) = d_impl_allUnits_L1_B fu x1 (d_impl_allUnits_L1 fu x1 n):=z

def d_impl_allUnits (fu:Nat) (x1:Plan):Option ((List Int)) :=
  d_impl_allUnits_L1 fu x1 fu (([]:List Int)) 0

def d_bits_Mul32 (fu:Nat) (x1:Int) (y2:Int):Option (Int × Int) :=
  some (IntKind.wrap .u32 (Int.fdiv (IntKind.wrap .u64 ((IntKind.wrap .u64 x1) * (IntKind.wrap .u64 y2))) (2 ^ (min 32 (IntKind.bits .u64)))),IntKind.wrap .u32 (IntKind.wrap .u64 ((IntKind.wrap .u64 x1) * (IntKind.wrap .u64 y2))))

def d_bits_Mul64 (fu:Nat) (x1:Int) (y2:Int):Option (Int × Int) :=
  some (IntKind.wrap .u64 ((IntKind.wrap .u64 ((IntKind.wrap .u64 ((Int.fdiv x1 (2 ^ (min 32 (IntKind.bits .u64)))) * (Int.fdiv y2 (2 ^ (min 32 (IntKind.bits .u64)))))) + (Int.fdiv (IntKind.wrap .u64 ((IntKind.wrap .u64 ((Int.fdiv x1 (2 ^ (min 32 (IntKind.bits .u64)))) * (IntKind.wrap .u64 (((BitVec.ofInt (IntKind.bits .u64) y2 &&& BitVec.ofInt (IntKind.bits .u64) 4294967295).toNat:Nat):Int)))) + (Int.fdiv (IntKind.wrap .u64 ((IntKind.wrap .u64 (((BitVec.ofInt (IntKind.bits .u64) x1 &&& BitVec.ofInt (IntKind.bits .u64) 4294967295).toNat:Nat):Int)) * (IntKind.wrap .u64 (((BitVec.ofInt (IntKind.bits .u64) y2 &&& BitVec.ofInt (IntKind.bits .u64) 4294967295).toNat:Nat):Int)))) (2 ^ (min 32 (IntKind.bits .u64)))))) (2 ^ (min 32 (IntKind.bits .u64)))))) + (Int.fdiv (IntKind.wrap .u64 ((IntKind.wrap .u64 (((BitVec.ofInt (IntKind.bits .u64) (IntKind.wrap .u64 ((IntKind.wrap .u64 ((Int.fdiv x1 (2 ^ (min 32 (IntKind.bits .u64)))) * (IntKind.wrap .u64 (((BitVec.ofInt (IntKind.bits .u64) y2 &&& BitVec.ofInt (IntKind.bits .u64) 4294967295).toNat:Nat):Int)))) + (Int.fdiv (IntKind.wrap .u64 ((IntKind.wrap .u64 (((BitVec.ofInt (IntKind.bits .u64) x1 &&& BitVec.ofInt (IntKind.bits .u64) 4294967295).toNat:Nat):Int)) * (IntKind.wrap .u64 (((BitVec.ofInt (IntKind.bits .u64) y2 &&& BitVec.ofInt (IntKind.bits .u64) 4294967295).toNat:Nat):Int)))) (2 ^ (min 32 (IntKind.bits .u64)))))) &&& BitVec.ofInt (IntKind.bits .u64) 4294967295).toNat:Nat):Int)) + (IntKind.wrap .u64 ((IntKind.wrap .u64 (((BitVec.ofInt (IntKind.bits .u64) x1 &&& BitVec.ofInt (IntKind.bits .u64) 4294967295).toNat:Nat):Int)) * (Int.fdiv y2 (2 ^ (min 32 (IntKind.bits .u64)))))))) (2 ^ (min 32 (IntKind.bits .u64))))),IntKind.wrap .u64 (x1 * y2))

def d_bits_Mul (fu:Nat) (x1:Int) (y2:Int):Option (Int × Int) :=
  obind (d_bits_Mul64 fu x1 y2) fun x3=>some (x3.1,x3.2)

def d_slices_Repeat_int_int_L1_B (fu:Nat)   (k3:List Int → Int → Option ((List Int))) (Aa:List Int) (Ab:Int):Option ((List Int)) :=
  bif (decide (Ab < ((Aa.length:Int)))) then obind (sls Aa Ab (Aa.length:Int)) fun Ad=>obind (sls Aa 0 Ab) fun Ac=>k3 (cpd Aa Ab Ac) (w64 (Ab + (cpn Aa Ab Ac))) else some (Aa)
def d_slices_Repeat_int_int_L1 (fu:Nat)   : Nat → List Int → Int → Option ((List Int))
  | 0=>fun _ _=>none
  | n + 1=>d_slices_Repeat_int_int_L1_B fu  (d_slices_Repeat_int_int_L1 fu  n)
theorem d_slices_Repeat_int_int_L1_s (fu:Nat)   (n:Nat):d_slices_Repeat_int_int_L1 fu  (n + 1) = d_slices_Repeat_int_int_L1_B fu  (d_slices_Repeat_int_int_L1 fu  n):=z

def d_slices_Repeat_int_int_J1 (fu:Nat) (x1:List Int) (x8:Int × Int)  : Option ((List Int)) :=
  obind (mk 8 (0:Int) (w64 x8.2)) fun Aa=>d_slices_Repeat_int_int_L1 fu fu (cpd Aa 0 x1) (cpn Aa 0 x1)

def d_slices_Repeat_int_int_J2 (fu:Nat) (x1:List Int) (Aa:Int)  : Option ((List Int)) :=
  obind (d_bits_Mul fu (IntKind.wrap .u64 ((x1.length:Int))) (IntKind.wrap .u64 Aa)) fun x8=>bif (decide (x8.1 > 0)) then none else bif (decide (x8.2 > 9223372036854775807)) then none else d_slices_Repeat_int_int_J1 fu x1 x8

def d_slices_Repeat_int_int (fu:Nat) (x1:List Int) (Aa:Int):Option ((List Int)) :=
  bif (decide (Aa < 0)) then none else d_slices_Repeat_int_int_J2 fu x1 Aa

def d_impl_Units_L1_B (fu:Nat)  (r1:Request) (k1:List Int → Int → Option ((List Int))) (Ab:List Int) (Aa:Int):Option ((List Int)) :=
  bif (decide (Aa < ((r1.fItems.length:Int)))) then obind (ix r1.fItems Aa) fun Ae=>obind (d_slices_Repeat_int_int fu (([Aa]:List Int)) Ae.fCount) fun Ac=>obind (apnd 8 Ab Ac) fun Ad=>k1 Ad (w64 (Aa + 1)) else some (Ab)
def d_impl_Units_L1 (fu:Nat)  (r1:Request):Nat → List Int → Int → Option ((List Int))
  | 0=>fun _ _=>none
  | n + 1=>d_impl_Units_L1_B fu r1 (d_impl_Units_L1 fu r1 n)
theorem d_impl_Units_L1_s (fu:Nat)  (r1:Request) (n:Nat):d_impl_Units_L1 fu r1 (n + 1) = d_impl_Units_L1_B fu r1 (d_impl_Units_L1 fu r1 n):=z

def d_impl_Units (fu:Nat) (r1:Request):Option ((List Int)) :=
  obind (d_impl_sound fu r1) fun Aa=>bif (!Aa) then some (([]:List Int)) else d_impl_Units_L1 fu r1 fu (([]:List Int)) 0

def d_impl_places_L1_B (fu:Nat)  (n1:Int) (k1:List Int → Int → Option ((List Int))) (Ab:List Int) (Aa:Int):Option ((List Int)) :=
  bif (decide (Aa < n1)) then obind (apnd 8 Ab (([Aa]:List Int))) fun Ac=>k1 Ac (w64 (Aa + 1)) else some (Ab)
def d_impl_places_L1 (fu:Nat)  (n1:Int):Nat → List Int → Int → Option ((List Int))
  | 0=>fun _ _=>none
  | n + 1=>d_impl_places_L1_B fu n1 (d_impl_places_L1 fu n1 n)
theorem d_impl_places_L1_s (fu:Nat)  (n1:Int) (n:Nat):d_impl_places_L1 fu n1 (n + 1) = d_impl_places_L1_B fu n1 (d_impl_places_L1 fu n1 n):=z

def d_impl_places (fu:Nat) (n1:Int):Option ((List Int)) :=
  d_impl_places_L1 fu n1 fu (([]:List Int)) 0

def d_slices_Equal_int_int_L1_B (fu:Nat)  (Ab:List Int) (Ac:List Int) (k1:Int → Option (Bool)) (Aa:Int):Option (Bool) :=
  bif (decide (Aa < ((Ab.length:Int)))) then obind (ix Ab Aa) fun Ae=>obind (ix Ac Aa) fun Ad=>bif (Ae != Ad) then some (false) else k1 (w64 (Aa + 1)) else some (true)
def d_slices_Equal_int_int_L1 (fu:Nat)  (Ab:List Int) (Aa:List Int):Nat → Int → Option (Bool)
  | 0=>fun _=>none
  | n + 1=>d_slices_Equal_int_int_L1_B fu Ab Aa (d_slices_Equal_int_int_L1 fu Ab Aa n)
theorem d_slices_Equal_int_int_L1_s (fu:Nat)  (Ab:List Int) (Aa:List Int) (n:Nat):d_slices_Equal_int_int_L1 fu Ab Aa (n + 1) = d_slices_Equal_int_int_L1_B fu Ab Aa (d_slices_Equal_int_int_L1 fu Ab Aa n):=z

def d_slices_Equal_int_int (fu:Nat) (Ab:List Int) (Aa:List Int):Option (Bool) :=
  bif (((Ab.length:Int)) != ((Aa.length:Int))) then some (false) else d_slices_Equal_int_int_L1 fu Ab Aa fu 0

def d_slices_Clone_int_int (fu:Nat) (Ab:List Int):Option ((List Int)) :=
  obind (apnd 8 (([]:List Int)) Ab) fun Aa=>some (Aa)

def d_impl_thereOf_1 (fu:Nat) (u1:Int) (x2:Int):Option (Bool) :=
  obind (d_impl_in fu u1 0 (w64 (x2 - 1))) fun x5=>some (!x5)

def d_slices_IndexFunc_int_int_L1_B (fu:Nat)  (Ab:List Int) (f5:Int → Option Bool) (k1:Int → Option (Int)) (Aa:Int):Option (Int) :=
  bif (decide (Aa < ((Ab.length:Int)))) then obind (ix Ab Aa) fun Ac=>obind (f5 Ac) fun Ad=>bif Ad then some (Aa) else k1 (w64 (Aa + 1)) else some ((-1))
def d_slices_IndexFunc_int_int_L1 (fu:Nat)  (Aa:List Int) (f5:Int → Option Bool):Nat → Int → Option (Int)
  | 0=>fun _=>none
  | n + 1=>d_slices_IndexFunc_int_int_L1_B fu Aa f5 (d_slices_IndexFunc_int_int_L1 fu Aa f5 n)
theorem d_slices_IndexFunc_int_int_L1_s (fu:Nat)  (Aa:List Int) (f5:Int → Option Bool) (n:Nat):d_slices_IndexFunc_int_int_L1 fu Aa f5 (n + 1) = d_slices_IndexFunc_int_int_L1_B fu Aa f5 (d_slices_IndexFunc_int_int_L1 fu Aa f5 n):=z

def d_slices_IndexFunc_int_int (fu:Nat) (Aa:List Int) (f5:Int → Option Bool):Option (Int) :=
  d_slices_IndexFunc_int_int_L1 fu Aa f5 fu 0

def d_slices_DeleteFunc_int_int_J1 (fu:Nat) (k3:List Int → Int → Int → Option ((List Int))) (Aa:Int) (Ab:List Int) (Ac:Int):Option ((List Int)) :=
  k3 Ab Ac (w64 (Aa + 1))

def d_slices_DeleteFunc_int_int_L1_B (fu:Nat)  (f5:Int → Option Bool) (k3:List Int → Int → Int → Option ((List Int))) (Aa:List Int) (Ab:Int) (Ac:Int):Option ((List Int)) :=
  bif (decide (Ac < ((Aa.length:Int)))) then obind (ix Aa Ac) fun Ad=>obind (f5 Ad) fun Ae=>bif (!Ae) then obind (ix Aa Ab) fun Ah=>d_slices_DeleteFunc_int_int_J1 fu k3 Ac (setx Aa Ab Ad) (w64 (Ab + 1)) else d_slices_DeleteFunc_int_int_J1 fu k3 Ac Aa Ab else obind (sls Aa Ab (Aa.length:Int)) fun Ag=>obind (sls (clrd Aa Ab) 0 Ab) fun Af=>some (Af)
def d_slices_DeleteFunc_int_int_L1 (fu:Nat)  (f5:Int → Option Bool):Nat → List Int → Int → Int → Option ((List Int))
  | 0=>fun _ _ _=>none
  | n + 1=>d_slices_DeleteFunc_int_int_L1_B fu f5 (d_slices_DeleteFunc_int_int_L1 fu f5 n)
theorem d_slices_DeleteFunc_int_int_L1_s (fu:Nat)  (f5:Int → Option Bool) (n:Nat):d_slices_DeleteFunc_int_int_L1 fu f5 (n + 1) = d_slices_DeleteFunc_int_int_L1_B fu f5 (d_slices_DeleteFunc_int_int_L1 fu f5 n):=z

def d_slices_DeleteFunc_int_int (fu:Nat) (Ab:List Int) (f5:Int → Option Bool):Option ((List Int)) :=
  obind (d_slices_IndexFunc_int_int fu Ab f5) fun Aa=>bif (Aa == ((-1))) then some (Ab) else d_slices_DeleteFunc_int_int_L1 fu f5 fu Ab Aa (w64 (Aa + 1))

def d_impl_thereOf (fu:Nat) (r1:Request) (Ae:List Int):Option ((List Int)) :=
  obind (d_impl_Units fu r1) fun Ad=>obind (d_slices_Clone_int_int fu Ae) fun Aa=>obind (d_slices_DeleteFunc_int_int fu Aa (fun Ab=>d_impl_thereOf_1 fu Ab ((Ad.length:Int)))) fun Ac=>some (Ac)

def d_impl_itemsOf_J1 (fu:Nat) (k3:List Item → Int → Option ((List Item))) (Ab:Int) (Aa:List Item):Option ((List Item)) :=
  k3 Aa (w64 (Ab + 1))

def d_impl_itemsOf_L1_B (fu:Nat)  (r1:Request) (Ae:List Int) (Ad:(List Int)) (k3:List Item → Int → Option ((List Item))) (Ab:List Item) (Aa:Int):Option ((List Item)) :=
  bif (decide (Aa < ((Ae.length:Int)))) then obind (ix Ae Aa) fun Ac=>obind (d_impl_in fu Ac 0 (w64 (((Ad.length:Int)) - 1))) fun Af=>bif Af then obind (ix Ad Ac) fun Ai=>obind (ix r1.fItems Ai) fun Ag=>obind (apnd 56 Ab (([Ag]:List Item))) fun Ah=>d_impl_itemsOf_J1 fu k3 Aa Ah else d_impl_itemsOf_J1 fu k3 Aa Ab else some (Ab)
def d_impl_itemsOf_L1 (fu:Nat)  (r1:Request) (Aa:List Int) (Ab:(List Int)):Nat → List Item → Int → Option ((List Item))
  | 0=>fun _ _=>none
  | n + 1=>d_impl_itemsOf_L1_B fu r1 Aa Ab (d_impl_itemsOf_L1 fu r1 Aa Ab n)
theorem d_impl_itemsOf_L1_s (fu:Nat)  (r1:Request) (Aa:List Int) (Ab:(List Int)) (n:Nat):d_impl_itemsOf_L1 fu r1 Aa Ab (n + 1) = d_impl_itemsOf_L1_B fu r1 Aa Ab (d_impl_itemsOf_L1 fu r1 Aa Ab n):=z

def d_impl_itemsOf (fu:Nat) (r1:Request) (Aa:List Int):Option ((List Item)) :=
  obind (d_impl_Units fu r1) fun Ab=>d_impl_itemsOf_L1 fu r1 Aa Ab fu (([]:List Item)) 0

def d_impl_Holds_1 (fu:Nat) (x1:Item) (x2:Typ):Option (Bool) :=
  obind (d_impl_Fits fu x1 x2) fun x8=>some (!x8)

def d_impl_Volume_J1 (fu:Nat) (Aa:Int) (h2:Int) (d3:Int)  : Option (Int) :=
  some (w64 ((w64 (Aa * h2)) * d3))

def d_impl_Volume (fu:Nat) (Aa:Int) (h2:Int) (d3:Int):Option (Int) :=
  obind (d_impl_in fu Aa 0 2000) fun Ac=>bif (!Ac) then some (0) else obind (d_impl_in fu h2 0 2000) fun Ab=>bif (!Ab) then some (0) else obind (d_impl_in fu d3 0 2000) fun Ad=>bif (!Ad) then some (0) else d_impl_Volume_J1 fu Aa h2 d3

def d_impl_VolumeOf_L1_B (fu:Nat)  (Ac:(List Item)) (k1:Int → Int → Option (Int)) (Ad:Int) (Ab:Int):Option (Int) :=
  bif (decide (Ab < ((Ac.length:Int)))) then obind (ix Ac Ab) fun Aa=>obind (d_impl_Volume fu Aa.fW Aa.fH Aa.fD) fun Ae=>k1 (w64 (Ad + Ae)) (w64 (Ab + 1)) else some (Ad)
def d_impl_VolumeOf_L1 (fu:Nat)  (Aa:(List Item)):Nat → Int → Int → Option (Int)
  | 0=>fun _ _=>none
  | n + 1=>d_impl_VolumeOf_L1_B fu Aa (d_impl_VolumeOf_L1 fu Aa n)
theorem d_impl_VolumeOf_L1_s (fu:Nat)  (Aa:(List Item)) (n:Nat):d_impl_VolumeOf_L1 fu Aa (n + 1) = d_impl_VolumeOf_L1_B fu Aa (d_impl_VolumeOf_L1 fu Aa n):=z

def d_impl_VolumeOf (fu:Nat) (r1:Request) (Aa:List Int):Option (Int) :=
  obind (d_impl_itemsOf fu r1 Aa) fun Ab=>d_impl_VolumeOf_L1 fu Ab fu 0 0

def d_impl_GramOf_L1_B (fu:Nat)  (Ac:(List Item)) (k1:Int → Int → Option (Int)) (Ab:Int) (Aa:Int):Option (Int) :=
  bif (decide (Aa < ((Ac.length:Int)))) then obind (ix Ac Aa) fun Ad=>k1 (w64 (Ab + Ad.fGram)) (w64 (Aa + 1)) else some (Ab)
def d_impl_GramOf_L1 (fu:Nat)  (Aa:(List Item)):Nat → Int → Int → Option (Int)
  | 0=>fun _ _=>none
  | n + 1=>d_impl_GramOf_L1_B fu Aa (d_impl_GramOf_L1 fu Aa n)
theorem d_impl_GramOf_L1_s (fu:Nat)  (Aa:(List Item)) (n:Nat):d_impl_GramOf_L1 fu Aa (n + 1) = d_impl_GramOf_L1_B fu Aa (d_impl_GramOf_L1 fu Aa n):=z

def d_impl_GramOf (fu:Nat) (r1:Request) (Aa:List Int):Option (Int) :=
  obind (d_impl_itemsOf fu r1 Aa) fun Ab=>d_impl_GramOf_L1 fu Ab fu 0 0

def d_impl_within (fu:Nat) (r1:Request) (Aa:List Int) (t9:Typ):Option (Bool) :=
  obind (d_impl_VolumeOf fu r1 Aa) fun Ad=>obind (d_impl_Volume fu t9.fW t9.fH t9.fD) fun Ac=>bif (decide (Ad ≤ Ac)) then obind (d_impl_GramOf fu r1 Aa) fun Ab=>some (decide (Ab ≤ t9.fGram)) else some (false)

def d_impl_Holds_J1 (fu:Nat) (r1:Request) (Aa:List Int) (t9:Typ)  : Option (Bool) :=
  obind (d_impl_itemsOf fu r1 Aa) fun Ac=>obind (d_slices_ContainsFunc_impl_Item_impl_Item fu Ac (fun Ab=>d_impl_Holds_1 fu Ab t9)) fun Ae=>bif (!Ae) then obind (d_impl_within fu r1 Aa t9) fun Ad=>some (Ad) else some (false)

def d_impl_Holds (fu:Nat) (r1:Request) (Aa:List Int) (t9:Typ):Option (Bool) :=
  obind (d_impl_sound fu r1) fun Ab=>bif (!Ab) then some (false) else obind (d_impl_thereOf fu r1 Aa) fun Ac=>bif (((Ac.length:Int)) != ((Aa.length:Int))) then some (false) else d_impl_Holds_J1 fu r1 Aa t9

def d_slices_Compact_int_int (fu:Nat) (x1:List Int):Option (List Int):=cmpI x1

def d_impl_kinds (fu:Nat) (Ab:List Int):Option ((List Int)) :=
  obind (d_slices_Clone_int_int fu Ab) fun x5=>obind (d_slices_Sort_int_int fu x5) fun Aa=>obind (d_slices_Compact_int_int fu Aa) fun Ac=>some (Ac)

def d_impl_Present_L1_B (fu:Nat)  (r1:Request) (k1:List Int → Int → Option ((List Int))) (Ab:List Int) (Aa:Int):Option ((List Int)) :=
  bif (decide (Aa < ((r1.fItems.length:Int)))) then obind (ix r1.fItems Aa) fun Ac=>obind (apnd 8 Ab (([Ac.fClass]:List Int))) fun Ad=>k1 Ad (w64 (Aa + 1)) else obind (d_impl_kinds fu Ab) fun Ae=>some (Ae)
def d_impl_Present_L1 (fu:Nat)  (r1:Request):Nat → List Int → Int → Option ((List Int))
  | 0=>fun _ _=>none
  | n + 1=>d_impl_Present_L1_B fu r1 (d_impl_Present_L1 fu r1 n)
theorem d_impl_Present_L1_s (fu:Nat)  (r1:Request) (n:Nat):d_impl_Present_L1 fu r1 (n + 1) = d_impl_Present_L1_B fu r1 (d_impl_Present_L1 fu r1 n):=z

def d_impl_Present (fu:Nat) (r1:Request):Option ((List Int)) :=
  obind (d_impl_sound fu r1) fun Aa=>bif (!Aa) then some (([]:List Int)) else d_impl_Present_L1 fu r1 fu (([]:List Int)) 0

def d_impl_mutual (fu:Nat) (Aa:List Pair) (a5:Int) (b6:Int):Option (Bool) :=
  obind (d_impl_Beside fu Aa a5 b6) fun x7=>bif x7 then obind (d_impl_Beside fu Aa b6 a5) fun Ab=>some (Ab) else some (false)

def d_impl_Groups_1_1 (fu:Nat) (x1:Int) (x2:List Pair) (x8:Int):Option (Bool) :=
  obind (d_impl_mutual fu x2 x8 x1) fun Aa=>some (!Aa)

def d_slices_ContainsFunc_int_int (fu:Nat) (Ab:List Int) (f5:Int → Option Bool):Option (Bool) :=
  obind (d_slices_IndexFunc_int_int fu Ab f5) fun Aa=>some (decide (Aa ≥ 0))

def d_impl_Groups_1 (fu:Nat) (l1:List Int) (x5:List Pair) (Ab:Int):Option (Bool) :=
  obind (d_slices_ContainsFunc_int_int fu l1 (fun Aa=>d_impl_Groups_1_1 fu Aa x5 Ab)) fun Ac=>some (!Ac)

def d_slices_IndexFunc_ints_int_L1_B (fu:Nat)  (Ab:List (List Int)) (f5:(List Int) → Option Bool) (k1:Int → Option (Int)) (Aa:Int):Option (Int) :=
  bif (decide (Aa < ((Ab.length:Int)))) then obind (ix Ab Aa) fun Ac=>obind (f5 Ac) fun Ad=>bif Ad then some (Aa) else k1 (w64 (Aa + 1)) else some ((-1))
def d_slices_IndexFunc_ints_int_L1 (fu:Nat)  (Aa:List (List Int)) (f5:(List Int) → Option Bool):Nat → Int → Option (Int)
  | 0=>fun _=>none
  | n + 1=>d_slices_IndexFunc_ints_int_L1_B fu Aa f5 (d_slices_IndexFunc_ints_int_L1 fu Aa f5 n)
theorem d_slices_IndexFunc_ints_int_L1_s (fu:Nat)  (Aa:List (List Int)) (f5:(List Int) → Option Bool) (n:Nat):d_slices_IndexFunc_ints_int_L1 fu Aa f5 (n + 1) = d_slices_IndexFunc_ints_int_L1_B fu Aa f5 (d_slices_IndexFunc_ints_int_L1 fu Aa f5 n):=z

def d_slices_IndexFunc_ints_int (fu:Nat) (Aa:List (List Int)) (f5:(List Int) → Option Bool):Option (Int) :=
  d_slices_IndexFunc_ints_int_L1 fu Aa f5 fu 0

def d_impl_Groups_J1 (fu:Nat) (k3:List (List Int) → Int → Option ((List (List Int)))) (Ab:Int) (Aa:List (List Int)):Option ((List (List Int))) :=
  k3 Aa (w64 (Ab + 1))

def d_impl_Groups_L1_B (fu:Nat)  (Ak:List Pair) (Ae:(List Int)) (k3:List (List Int) → Int → Option ((List (List Int)))) (Aa:List (List Int)) (Ab:Int):Option ((List (List Int))) :=
  bif (decide (Ab < ((Ae.length:Int)))) then obind (ix Ae Ab) fun Ac=>obind (d_impl_in fu Ac 0 3) fun Aj=>bif (!Aj) then d_impl_Groups_J1 fu k3 Ab Aa else obind (d_slices_IndexFunc_ints_int fu Aa (fun Af=>d_impl_Groups_1 fu Af Ak Ac)) fun Ad=>bif (decide (Ad < 0)) then obind (apnd 24 Aa [([Ac]:List Int)]) fun Ag=>d_impl_Groups_J1 fu k3 Ab Ag else obind (ix Aa Ad) fun Ah=>obind (apnd 8 Ah (([Ac]:List Int))) fun Ai=>obind (ix Aa Ad) fun Al=>d_impl_Groups_J1 fu k3 Ab (setx Aa Ad Ai) else some (Aa)
def d_impl_Groups_L1 (fu:Nat)  (Ab:List Pair) (Aa:(List Int)):Nat → List (List Int) → Int → Option ((List (List Int)))
  | 0=>fun _ _=>none
  | n + 1=>d_impl_Groups_L1_B fu Ab Aa (d_impl_Groups_L1 fu Ab Aa n)
theorem d_impl_Groups_L1_s (fu:Nat)  (Ab:List Pair) (Aa:(List Int)) (n:Nat):d_impl_Groups_L1 fu Ab Aa (n + 1) = d_impl_Groups_L1_B fu Ab Aa (d_impl_Groups_L1 fu Ab Aa n):=z

def d_impl_Groups (fu:Nat) (Ac:List Pair) (Aa:List Int):Option ((List (List Int))) :=
  obind (d_impl_kinds fu Aa) fun Ab=>d_impl_Groups_L1 fu Ac Ab fu (([]:List (List Int))) 0

def d_impl_GroupsOf (fu:Nat) (r1:Request):Option ((List (List Int))) :=
  obind (d_impl_sound fu r1) fun Ac=>bif (!Ac) then some (([]:List (List Int))) else obind (d_impl_Present fu r1) fun Aa=>obind (d_impl_Groups fu r1.fPairs Aa) fun Ab=>some (Ab)

def d_slices_Index_int_int_L1_B (fu:Nat)  (Ab:List Int) (v5:Int) (k1:Int → Option (Int)) (Aa:Int):Option (Int) :=
  bif (decide (Aa < ((Ab.length:Int)))) then obind (ix Ab Aa) fun Ac=>bif (v5 == Ac) then some (Aa) else k1 (w64 (Aa + 1)) else some ((-1))
def d_slices_Index_int_int_L1 (fu:Nat)  (Aa:List Int) (v5:Int):Nat → Int → Option (Int)
  | 0=>fun _=>none
  | n + 1=>d_slices_Index_int_int_L1_B fu Aa v5 (d_slices_Index_int_int_L1 fu Aa v5 n)
theorem d_slices_Index_int_int_L1_s (fu:Nat)  (Aa:List Int) (v5:Int) (n:Nat):d_slices_Index_int_int_L1 fu Aa v5 (n + 1) = d_slices_Index_int_int_L1_B fu Aa v5 (d_slices_Index_int_int_L1 fu Aa v5 n):=z

def d_slices_Index_int_int (fu:Nat) (Aa:List Int) (v5:Int):Option (Int) :=
  d_slices_Index_int_int_L1 fu Aa v5 fu 0

def d_slices_Contains_int_int (fu:Nat) (Aa:List Int) (v5:Int):Option (Bool) :=
  obind (d_slices_Index_int_int fu Aa v5) fun x6=>some (decide (x6 ≥ 0))

def d_impl_cartonFault_1 (fu:Nat) (y1:Item) (x2:Carton) (x8:List (List Int)):Option (Bool) :=
  bif (decide (x2.fGroup ≥ ((x8.length:Int)))) then some (true) else obind (ix x8 x2.fGroup) fun Aa=>obind (d_slices_Contains_int_int fu Aa y1.fClass) fun Ab=>some (!Ab)

def d_impl_Cheapest_J1 (fu:Nat) (k3:Typ → Bool → Int → Option (Typ × Bool)) (Ac:Int) (Aa:Typ) (Ab:Bool):Option (Typ × Bool) :=
  k3 Aa Ab (w64 (Ac + 1))

def d_impl_Cheapest_L1_B (fu:Nat)  (r1:Request) (Af:List Int) (k3:Typ → Bool → Int → Option (Typ × Bool)) (Ab:Typ) (Ad:Bool) (Aa:Int):Option (Typ × Bool) :=
  bif (decide (Aa < ((r1.fTypes.length:Int)))) then obind (ix r1.fTypes Aa) fun Ac=>obind (d_impl_Holds fu r1 Af Ac) fun Ae=>bif (!Ae) then d_impl_Cheapest_J1 fu k3 Aa Ab Ad else bif (!Ad) then d_impl_Cheapest_J1 fu k3 Aa Ac true else bif (decide (Ac.fCost < Ab.fCost)) then d_impl_Cheapest_J1 fu k3 Aa Ac true else bif (Ac.fCost == Ab.fCost) then bif (decide (Ac.fId < Ab.fId)) then d_impl_Cheapest_J1 fu k3 Aa Ac true else d_impl_Cheapest_J1 fu k3 Aa Ab Ad else d_impl_Cheapest_J1 fu k3 Aa Ab Ad else some (Ab,Ad)
def d_impl_Cheapest_L1 (fu:Nat)  (r1:Request) (Aa:List Int):Nat → Typ → Bool → Int → Option (Typ × Bool)
  | 0=>fun _ _ _=>none
  | n + 1=>d_impl_Cheapest_L1_B fu r1 Aa (d_impl_Cheapest_L1 fu r1 Aa n)
theorem d_impl_Cheapest_L1_s (fu:Nat)  (r1:Request) (Aa:List Int) (n:Nat):d_impl_Cheapest_L1 fu r1 Aa (n + 1) = d_impl_Cheapest_L1_B fu r1 Aa (d_impl_Cheapest_L1 fu r1 Aa n):=z

def d_impl_Cheapest (fu:Nat) (r1:Request) (Aa:List Int):Option (Typ × Bool) :=
  d_impl_Cheapest_L1 fu r1 Aa fu ((⟨0,0,0,0,0,0,0⟩:Typ)) false 0

def d_impl_cartonFault_J1 (fu:Nat) (k3:Int → Option (Int)) (Aa:Int)  : Option (Int) :=
  k3 (w64 (Aa + 1))

def d_impl_cartonFault_L1_B (fu:Nat)  (r1:Request) (x5:Plan) (k6:Int → Option (Int)) (Aa:Int):Option (Int) :=
  bif (decide (Aa < ((x5.fCartons.length:Int)))) then obind (ix x5.fCartons Aa) fun Ab=>obind (d_impl_Cheapest fu r1 Ab.fUnits) fun Ac=>bif (Ac.1.fId != Ab.fType) then some (6) else k6 (w64 (Aa + 1)) else some (0)
def d_impl_cartonFault_L1 (fu:Nat)  (r1:Request) (x5:Plan):Nat → Int → Option (Int)
  | 0=>fun _=>none
  | n + 1=>d_impl_cartonFault_L1_B fu r1 x5 (d_impl_cartonFault_L1 fu r1 x5 n)
theorem d_impl_cartonFault_L1_s (fu:Nat)  (r1:Request) (x5:Plan) (n:Nat):d_impl_cartonFault_L1 fu r1 x5 (n + 1) = d_impl_cartonFault_L1_B fu r1 x5 (d_impl_cartonFault_L1 fu r1 x5 n):=z

def d_impl_cartonFault_L2_B (fu:Nat)  (r1:Request) (x5:Plan) (Af:(List (List Int))) (k5:Int → Option (Int)) (Aa:Int):Option (Int) :=
  bif (decide (Aa < ((x5.fCartons.length:Int)))) then obind (ix x5.fCartons Aa) fun Ab=>obind (d_impl_itemsOf fu r1 Ab.fUnits) fun Ac=>obind (d_slices_ContainsFunc_impl_Item_impl_Item fu Ac (fun Ae=>d_impl_cartonFault_1 fu Ae Ab Af)) fun Ad=>bif Ad then some (5) else k5 (w64 (Aa + 1)) else d_impl_cartonFault_L1 fu r1 x5 fu 0
def d_impl_cartonFault_L2 (fu:Nat)  (r1:Request) (x5:Plan) (Aa:(List (List Int))):Nat → Int → Option (Int)
  | 0=>fun _=>none
  | n + 1=>d_impl_cartonFault_L2_B fu r1 x5 Aa (d_impl_cartonFault_L2 fu r1 x5 Aa n)
theorem d_impl_cartonFault_L2_s (fu:Nat)  (r1:Request) (x5:Plan) (Aa:(List (List Int))) (n:Nat):d_impl_cartonFault_L2 fu r1 x5 Aa (n + 1) = d_impl_cartonFault_L2_B fu r1 x5 Aa (d_impl_cartonFault_L2 fu r1 x5 Aa n):=z

def d_impl_cartonFault_L3_B (fu:Nat)  (r1:Request) (x5:Plan) (k3:Int → Option (Int)) (Aa:Int):Option (Int) :=
  bif (decide (Aa < ((x5.fCartons.length:Int)))) then obind (ix x5.fCartons Aa) fun Ac=>obind (d_impl_TypeById fu r1 Ac.fType) fun Ab=>bif (!Ab.2) then some (4) else obind (d_impl_Holds fu r1 Ac.fUnits Ab.1) fun Ad=>bif (!Ad) then some (4) else d_impl_cartonFault_J1 fu k3 Aa else obind (d_impl_GroupsOf fu r1) fun Ae=>d_impl_cartonFault_L2 fu r1 x5 Ae fu 0
def d_impl_cartonFault_L3 (fu:Nat)  (r1:Request) (x5:Plan):Nat → Int → Option (Int)
  | 0=>fun _=>none
  | n + 1=>d_impl_cartonFault_L3_B fu r1 x5 (d_impl_cartonFault_L3 fu r1 x5 n)
theorem d_impl_cartonFault_L3_s (fu:Nat)  (r1:Request) (x5:Plan) (n:Nat):d_impl_cartonFault_L3 fu r1 x5 (n + 1) = d_impl_cartonFault_L3_B fu r1 x5 (d_impl_cartonFault_L3 fu r1 x5 n):=z

def d_impl_cartonFault (fu:Nat) (r1:Request) (x5:Plan):Option (Int) :=
  d_impl_cartonFault_L3 fu r1 x5 fu 0

def d_impl_Gross_J1 (fu:Nat) (r1:Request) (x5:Carton) (Ab:Typ × Bool)  : Option (Int) :=
  obind (d_impl_GramOf fu r1 x5.fUnits) fun Aa=>some (w64 (Ab.1.fTare + Aa))

def d_impl_Gross (fu:Nat) (r1:Request) (x5:Carton):Option (Int) :=
  obind (d_impl_TypeById fu r1 x5.fType) fun Aa=>bif (!Aa.2) then some (0) else obind (d_impl_sound fu r1) fun Ab=>bif (!Ab) then some (0) else d_impl_Gross_J1 fu r1 x5 Aa

def d_impl_BoxOf_J1 (fu:Nat) (r1:Request) (x5:Carton) (Aa:Typ × Bool)  : Option (Box) :=
  obind (d_impl_Gross fu r1 x5) fun Ab=>some ((⟨Aa.1.fW,Aa.1.fD,Aa.1.fH,Ab⟩:Box))

def d_impl_BoxOf (fu:Nat) (r1:Request) (x5:Carton):Option (Box) :=
  obind (d_impl_TypeById fu r1 x5.fType) fun Aa=>bif (!Aa.2) then some ((⟨0,0,0,0⟩:Box)) else obind (d_impl_sound fu r1) fun Ab=>bif (!Ab) then some ((⟨0,0,0,0⟩:Box)) else d_impl_BoxOf_J1 fu r1 x5 Aa

def d_impl_Within_J1 (fu:Nat) (p1:Pallet) (b2:Box) (Aa:Spot)  : Option (Bool) :=
  bif (decide ((w64 (Aa.fX + b2.fW)) ≤ p1.fW)) then bif (decide ((w64 (Aa.fY + b2.fD)) ≤ p1.fD)) then some (decide ((w64 (Aa.fZ + b2.fH)) ≤ p1.fH)) else some (false) else some (false)

def d_impl_Within (fu:Nat) (p1:Pallet) (b2:Box) (Aa:Spot):Option (Bool) :=
  obind (d_impl_isPlace fu Aa.fX) fun Ac=>bif (!Ac) then some (false) else obind (d_impl_isPlace fu Aa.fY) fun Ae=>bif (!Ae) then some (false) else obind (d_impl_isPlace fu Aa.fZ) fun Ad=>bif (!Ad) then some (false) else obind (d_impl_isSide fu b2.fW) fun Ab=>bif (!Ab) then some (false) else obind (d_impl_isSide fu b2.fD) fun Ag=>bif (!Ag) then some (false) else obind (d_impl_isSide fu b2.fH) fun Af=>bif (!Af) then some (false) else d_impl_Within_J1 fu p1 b2 Aa

def d_impl_placed (fu:Nat) (b1:Box) (Aa:Spot):Option (Bool) :=
  obind (d_impl_isPlace fu b1.fW) fun Af=>bif Af then obind (d_impl_isPlace fu b1.fD) fun Ae=>bif Ae then obind (d_impl_isPlace fu b1.fH) fun Ag=>bif Ag then obind (d_impl_isPlace fu Aa.fX) fun Ab=>bif Ab then obind (d_impl_isPlace fu Aa.fY) fun Ad=>bif Ad then obind (d_impl_isPlace fu Aa.fZ) fun Ac=>some (Ac) else some (false) else some (false) else some (false) else some (false) else some (false)

def d_impl_cross (fu:Nat) (a1:Int) (Aa:Int) (b3:Int) (Ab:Int):Option (Bool) :=
  bif (decide (a1 < (w64 (b3 + Ab)))) then some (decide (b3 < (w64 (a1 + Aa)))) else some (false)

def d_impl_Overlap_J1 (fu:Nat) (a1:Box) (Aa:Spot) (b3:Box) (t4:Spot)  : Option (Bool) :=
  obind (d_impl_cross fu Aa.fX a1.fW t4.fX b3.fW) fun Ac=>bif Ac then obind (d_impl_cross fu Aa.fY a1.fD t4.fY b3.fD) fun Ab=>bif Ab then obind (d_impl_cross fu Aa.fZ a1.fH t4.fZ b3.fH) fun Ad=>some (Ad) else some (false) else some (false)

def d_impl_Overlap (fu:Nat) (a1:Box) (Aa:Spot) (b3:Box) (t4:Spot):Option (Bool) :=
  obind (d_impl_placed fu a1 Aa) fun Ab=>bif (!Ab) then some (false) else obind (d_impl_placed fu b3 t4) fun Ac=>bif (!Ac) then some (false) else bif (Aa.fPallet != t4.fPallet) then some (false) else d_impl_Overlap_J1 fu a1 Aa b3 t4

def d_impl_Pallets_J1 (fu:Nat) (k3:Int → Int → Option (Int)) (Aa:Int) (Ab:Int):Option (Int) :=
  k3 Ab (w64 (Aa + 1))

def d_impl_Pallets_L1_B (fu:Nat)  (Ad:List Spot) (k3:Int → Int → Option (Int)) (Aa:Int) (Ab:Int):Option (Int) :=
  bif (decide (Ab < ((Ad.length:Int)))) then obind (ix Ad Ab) fun Ac=>obind (d_impl_in fu Ac.fPallet 0 999999) fun Ae=>bif Ae then d_impl_Pallets_J1 fu k3 Ab (if (w64 (Ac.fPallet + 1)) > Aa then w64 (Ac.fPallet + 1) else Aa) else d_impl_Pallets_J1 fu k3 Ab Aa else some (Aa)
def d_impl_Pallets_L1 (fu:Nat)  (Aa:List Spot):Nat → Int → Int → Option (Int)
  | 0=>fun _ _=>none
  | n + 1=>d_impl_Pallets_L1_B fu Aa (d_impl_Pallets_L1 fu Aa n)
theorem d_impl_Pallets_L1_s (fu:Nat)  (Aa:List Spot) (n:Nat):d_impl_Pallets_L1 fu Aa (n + 1) = d_impl_Pallets_L1_B fu Aa (d_impl_Pallets_L1 fu Aa n):=z

def d_impl_Pallets (fu:Nat) (Aa:List Spot):Option (Int) :=
  d_impl_Pallets_L1 fu Aa fu 0 0

def d_impl_OnPallet_J1 (fu:Nat) (k3:List Int → Int → Option ((List Int))) (Ab:Int) (Aa:List Int):Option ((List Int)) :=
  k3 Aa (w64 (Ab + 1))

def d_impl_OnPallet_L1_B (fu:Nat)  (x1:Plan) (Ae:Int) (k3:List Int → Int → Option ((List Int))) (Ab:List Int) (Aa:Int):Option ((List Int)) :=
  bif (decide (Aa < ((x1.fSpots.length:Int)))) then obind (ix x1.fSpots Aa) fun Ac=>bif (Ac.fPallet == Ae) then obind (apnd 8 Ab (([Aa]:List Int))) fun Ad=>d_impl_OnPallet_J1 fu k3 Aa Ad else d_impl_OnPallet_J1 fu k3 Aa Ab else some (Ab)
def d_impl_OnPallet_L1 (fu:Nat)  (x1:Plan) (Aa:Int):Nat → List Int → Int → Option ((List Int))
  | 0=>fun _ _=>none
  | n + 1=>d_impl_OnPallet_L1_B fu x1 Aa (d_impl_OnPallet_L1 fu x1 Aa n)
theorem d_impl_OnPallet_L1_s (fu:Nat)  (x1:Plan) (Aa:Int) (n:Nat):d_impl_OnPallet_L1 fu x1 Aa (n + 1) = d_impl_OnPallet_L1_B fu x1 Aa (d_impl_OnPallet_L1 fu x1 Aa n):=z

def d_impl_OnPallet (fu:Nat) (x1:Plan) (Aa:Int):Option ((List Int)) :=
  bif (((x1.fSpots.length:Int)) != ((x1.fCartons.length:Int))) then some (([]:List Int)) else d_impl_OnPallet_L1 fu x1 Aa fu (([]:List Int)) 0

def d_impl_PalletGram_L1_B (fu:Nat)  (r1:Request) (x5:Plan) (Ab:(List Int)) (k1:Int → Int → Option (Int)) (Ac:Int) (Aa:Int):Option (Int) :=
  bif (decide (Aa < ((Ab.length:Int)))) then obind (ix Ab Aa) fun Af=>obind (ix x5.fCartons Af) fun Ad=>obind (d_impl_Gross fu r1 Ad) fun Ae=>k1 (w64 (Ac + Ae)) (w64 (Aa + 1)) else some (Ac)
def d_impl_PalletGram_L1 (fu:Nat)  (r1:Request) (x5:Plan) (Aa:(List Int)):Nat → Int → Int → Option (Int)
  | 0=>fun _ _=>none
  | n + 1=>d_impl_PalletGram_L1_B fu r1 x5 Aa (d_impl_PalletGram_L1 fu r1 x5 Aa n)
theorem d_impl_PalletGram_L1_s (fu:Nat)  (r1:Request) (x5:Plan) (Aa:(List Int)) (n:Nat):d_impl_PalletGram_L1 fu r1 x5 Aa (n + 1) = d_impl_PalletGram_L1_B fu r1 x5 Aa (d_impl_PalletGram_L1 fu r1 x5 Aa n):=z

def d_impl_PalletGram (fu:Nat) (r1:Request) (x5:Plan) (Aa:Int):Option (Int) :=
  obind (d_impl_OnPallet fu x5 Aa) fun Ab=>d_impl_PalletGram_L1 fu r1 x5 Ab fu 0 0

def d_impl_spotFault_1 (fu:Nat) (i1:Int) (x2:Plan) (Ab:List Int):Option (Bool) :=
  obind (ix x2.fCartons i1) fun Aa=>obind (ix Ab 0) fun Ad=>obind (ix x2.fCartons Ad) fun Ac=>some (Aa.fGroup != Ac.fGroup)

def d_impl_spotFault_L1_B (fu:Nat) (k4:Int → Option (Int)) (x5:Plan) (Ac:List Box) (Aa:Int) (k5:Int → Option (Int)) (Ab:Int):Option (Int) :=
  bif (decide (Ab < Aa)) then obind (ix Ac Aa) fun Ae=>obind (ix x5.fSpots Aa) fun Ad=>obind (ix Ac Ab) fun Af=>obind (ix x5.fSpots Ab) fun Ah=>obind (d_impl_Overlap fu Ae Ad Af Ah) fun Ag=>bif Ag then some (8) else k5 (w64 (Ab + 1)) else k4 (w64 (Aa + 1))
def d_impl_spotFault_L1 (fu:Nat) (k4:Int → Option (Int)) (x5:Plan) (Aa:List Box) (Ab:Int):Nat → Int → Option (Int)
  | 0=>fun _=>none
  | n + 1=>d_impl_spotFault_L1_B fu k4 x5 Aa Ab (d_impl_spotFault_L1 fu k4 x5 Aa Ab n)
theorem d_impl_spotFault_L1_s (fu:Nat) (k4:Int → Option (Int)) (x5:Plan) (Aa:List Box) (Ab:Int) (n:Nat):d_impl_spotFault_L1 fu k4 x5 Aa Ab (n + 1) = d_impl_spotFault_L1_B fu k4 x5 Aa Ab (d_impl_spotFault_L1 fu k4 x5 Aa Ab n):=z

def d_impl_spotFault_J1 (fu:Nat) (Aa:Int → Option (Int)) (Ab:Int)  : Option (Int) :=
  Aa (w64 (Ab + 1))

def d_impl_spotFault_J2 (fu:Nat) (Ac:Int → Option (Int)) (x5:Plan) (Ad:Int) (Aa:(List Int))  : Option (Int) :=
  obind (d_slices_ContainsFunc_int_int fu Aa (fun Ab=>d_impl_spotFault_1 fu Ab x5 Aa)) fun Ae=>bif Ae then some (9) else d_impl_spotFault_J1 fu Ac Ad

def d_impl_spotFault_L2_B (fu:Nat)  (r1:Request) (x5:Plan) (Ac:Int) (Ad:Int → Option (Int)) (Aa:Int):Option (Int) :=
  bif (decide (Aa < Ac)) then obind (d_impl_OnPallet fu x5 Aa) fun Ab=>bif (((Ab.length:Int)) == 0) then some (9) else obind (d_impl_PalletGram fu r1 x5 Aa) fun Ae=>bif (decide (Ae > r1.fPallet.fGram)) then some (9) else d_impl_spotFault_J2 fu Ad x5 Aa Ab else some (0)
def d_impl_spotFault_L2 (fu:Nat)  (r1:Request) (x5:Plan) (Aa:Int):Nat → Int → Option (Int)
  | 0=>fun _=>none
  | n + 1=>d_impl_spotFault_L2_B fu r1 x5 Aa (d_impl_spotFault_L2 fu r1 x5 Aa n)
theorem d_impl_spotFault_L2_s (fu:Nat)  (r1:Request) (x5:Plan) (Aa:Int) (n:Nat):d_impl_spotFault_L2 fu r1 x5 Aa (n + 1) = d_impl_spotFault_L2_B fu r1 x5 Aa (d_impl_spotFault_L2 fu r1 x5 Aa n):=z

def d_impl_spotFault_L3_B (fu:Nat)  (r1:Request) (x5:Plan) (Aa:List Box) (k4:Int → Option (Int)) (Ab:Int):Option (Int) :=
  bif (decide (Ab < ((Aa.length:Int)))) then d_impl_spotFault_L1 fu k4 x5 Aa Ab fu 0 else obind (d_impl_Pallets fu x5.fSpots) fun Ac=>d_impl_spotFault_L2 fu r1 x5 Ac fu 0
def d_impl_spotFault_L3 (fu:Nat)  (r1:Request) (x5:Plan) (Aa:List Box):Nat → Int → Option (Int)
  | 0=>fun _=>none
  | n + 1=>d_impl_spotFault_L3_B fu r1 x5 Aa (d_impl_spotFault_L3 fu r1 x5 Aa n)
theorem d_impl_spotFault_L3_s (fu:Nat)  (r1:Request) (x5:Plan) (Aa:List Box) (n:Nat):d_impl_spotFault_L3 fu r1 x5 Aa (n + 1) = d_impl_spotFault_L3_B fu r1 x5 Aa (d_impl_spotFault_L3 fu r1 x5 Aa n):=z

def d_impl_spotFault_L4_B (fu:Nat)  (r1:Request) (x5:Plan) (k1:List Box → Int → Option (Int)) (Ab:List Box) (Aa:Int):Option (Int) :=
  bif (decide (Aa < ((x5.fCartons.length:Int)))) then obind (ix x5.fCartons Aa) fun Ag=>obind (d_impl_BoxOf fu r1 Ag) fun Ac=>obind (ix x5.fSpots Aa) fun Ae=>obind (d_impl_Within fu r1.fPallet Ac Ae) fun Ad=>bif (!Ad) then some (7) else obind (apnd 32 Ab (([Ac]:List Box))) fun Af=>k1 Af (w64 (Aa + 1)) else d_impl_spotFault_L3 fu r1 x5 Ab fu 0
def d_impl_spotFault_L4 (fu:Nat)  (r1:Request) (x5:Plan):Nat → List Box → Int → Option (Int)
  | 0=>fun _ _=>none
  | n + 1=>d_impl_spotFault_L4_B fu r1 x5 (d_impl_spotFault_L4 fu r1 x5 n)
theorem d_impl_spotFault_L4_s (fu:Nat)  (r1:Request) (x5:Plan) (n:Nat):d_impl_spotFault_L4 fu r1 x5 (n + 1) = d_impl_spotFault_L4_B fu r1 x5 (d_impl_spotFault_L4 fu r1 x5 n):=z

def d_impl_spotFault (fu:Nat) (r1:Request) (x5:Plan):Option (Int) :=
  d_impl_spotFault_L4 fu r1 x5 fu (([]:List Box)) 0

def d_impl_Check_J1 (fu:Nat) (r1:Request) (x5:Plan)  : Option (Int) :=
  obind (d_impl_allUnits fu x5) fun Ac=>obind (d_slices_Sort_int_int fu Ac) fun Ag=>obind (d_impl_Units fu r1) fun Ae=>obind (d_impl_places fu ((Ae.length:Int))) fun Ad=>obind (d_slices_Equal_int_int fu Ag Ad) fun Ab=>bif (!Ab) then some (3) else obind (d_impl_cartonFault fu r1 x5) fun Aa=>bif (Aa != 0) then some (Aa) else obind (d_impl_spotFault fu r1 x5) fun Af=>some (Af)

def d_impl_Check (fu:Nat) (r1:Request) (x5:Plan):Option (Int) :=
  obind (d_impl_sound fu r1) fun Ac=>bif (!Ac) then some (1) else obind (d_impl_PlanOk fu x5) fun Ab=>bif (!Ab) then some (2) else obind (d_slices_ContainsFunc_impl_Carton_impl_Carton fu x5.fCartons (fun Ad=>d_impl_Check_1 fu Ad)) fun Aa=>bif Aa then some (2) else d_impl_Check_J1 fu r1 x5

def d_impl_Feasible (fu:Nat) (r1:Request) (x5:Plan):Option (Bool) :=
  obind (d_impl_Check fu r1 x5) fun Aa=>some (Aa == 0)

def d_laws_eqPallet (fu:Nat) (a1:Pallet) (b2:Pallet):Option (Bool) :=
  bif (a1.fW != b2.fW) then some (false) else bif (a1.fD != b2.fD) then some (false) else bif (a1.fH != b2.fH) then some (false) else bif (a1.fGram != b2.fGram) then some (false) else some (true)

def d_laws_eqPair (fu:Nat) (a1:Pair) (b2:Pair):Option (Bool) :=
  bif (a1.fA != b2.fA) then some (false) else bif (a1.fB != b2.fB) then some (false) else some (true)

def d_laws_eqPairS_L1_B (fu:Nat)  (a1:List Pair) (b5:List Pair) (k1:Int → Option (Bool)) (Aa:Int):Option (Bool) :=
  bif (decide (Aa < ((a1.length:Int)))) then obind (ix a1 Aa) fun Ac=>obind (ix b5 Aa) fun Ab=>obind (d_laws_eqPair fu Ac Ab) fun Ad=>bif (!Ad) then some (false) else k1 (w64 (Aa + 1)) else some (true)
def d_laws_eqPairS_L1 (fu:Nat)  (a1:List Pair) (b5:List Pair):Nat → Int → Option (Bool)
  | 0=>fun _=>none
  | n + 1=>d_laws_eqPairS_L1_B fu a1 b5 (d_laws_eqPairS_L1 fu a1 b5 n)
theorem d_laws_eqPairS_L1_s (fu:Nat)  (a1:List Pair) (b5:List Pair) (n:Nat):d_laws_eqPairS_L1 fu a1 b5 (n + 1) = d_laws_eqPairS_L1_B fu a1 b5 (d_laws_eqPairS_L1 fu a1 b5 n):=z

def d_laws_eqPairS (fu:Nat) (a1:List Pair) (b5:List Pair):Option (Bool) :=
  bif (((a1.length:Int)) != ((b5.length:Int))) then some (false) else d_laws_eqPairS_L1 fu a1 b5 fu 0

def d_laws_eqType (fu:Nat) (a1:Typ) (b2:Typ):Option (Bool) :=
  bif (a1.fId != b2.fId) then some (false) else bif (a1.fW != b2.fW) then some (false) else bif (a1.fH != b2.fH) then some (false) else bif (a1.fD != b2.fD) then some (false) else bif (a1.fTare != b2.fTare) then some (false) else bif (a1.fGram != b2.fGram) then some (false) else bif (a1.fCost != b2.fCost) then some (false) else some (true)

def d_laws_eqTypeS_L1_B (fu:Nat)  (a1:List Typ) (b5:List Typ) (k1:Int → Option (Bool)) (Aa:Int):Option (Bool) :=
  bif (decide (Aa < ((a1.length:Int)))) then obind (ix a1 Aa) fun Ac=>obind (ix b5 Aa) fun Ab=>obind (d_laws_eqType fu Ac Ab) fun Ad=>bif (!Ad) then some (false) else k1 (w64 (Aa + 1)) else some (true)
def d_laws_eqTypeS_L1 (fu:Nat)  (a1:List Typ) (b5:List Typ):Nat → Int → Option (Bool)
  | 0=>fun _=>none
  | n + 1=>d_laws_eqTypeS_L1_B fu a1 b5 (d_laws_eqTypeS_L1 fu a1 b5 n)
theorem d_laws_eqTypeS_L1_s (fu:Nat)  (a1:List Typ) (b5:List Typ) (n:Nat):d_laws_eqTypeS_L1 fu a1 b5 (n + 1) = d_laws_eqTypeS_L1_B fu a1 b5 (d_laws_eqTypeS_L1 fu a1 b5 n):=z

def d_laws_eqTypeS (fu:Nat) (a1:List Typ) (b5:List Typ):Option (Bool) :=
  bif (((a1.length:Int)) != ((b5.length:Int))) then some (false) else d_laws_eqTypeS_L1 fu a1 b5 fu 0

def d_laws_eqItem (fu:Nat) (a1:Item) (b2:Item):Option (Bool) :=
  bif (a1.fId != b2.fId) then some (false) else bif (a1.fW != b2.fW) then some (false) else bif (a1.fH != b2.fH) then some (false) else bif (a1.fD != b2.fD) then some (false) else bif (a1.fGram != b2.fGram) then some (false) else bif (a1.fClass != b2.fClass) then some (false) else bif (a1.fCount != b2.fCount) then some (false) else some (true)

def d_laws_eqItemS_L1_B (fu:Nat)  (a1:List Item) (b5:List Item) (k1:Int → Option (Bool)) (Aa:Int):Option (Bool) :=
  bif (decide (Aa < ((a1.length:Int)))) then obind (ix a1 Aa) fun Ac=>obind (ix b5 Aa) fun Ab=>obind (d_laws_eqItem fu Ac Ab) fun Ad=>bif (!Ad) then some (false) else k1 (w64 (Aa + 1)) else some (true)
def d_laws_eqItemS_L1 (fu:Nat)  (a1:List Item) (b5:List Item):Nat → Int → Option (Bool)
  | 0=>fun _=>none
  | n + 1=>d_laws_eqItemS_L1_B fu a1 b5 (d_laws_eqItemS_L1 fu a1 b5 n)
theorem d_laws_eqItemS_L1_s (fu:Nat)  (a1:List Item) (b5:List Item) (n:Nat):d_laws_eqItemS_L1 fu a1 b5 (n + 1) = d_laws_eqItemS_L1_B fu a1 b5 (d_laws_eqItemS_L1 fu a1 b5 n):=z

def d_laws_eqItemS (fu:Nat) (a1:List Item) (b5:List Item):Option (Bool) :=
  bif (((a1.length:Int)) != ((b5.length:Int))) then some (false) else d_laws_eqItemS_L1 fu a1 b5 fu 0

def d_laws_eqRequest (fu:Nat) (a1:Request) (b5:Request):Option (Bool) :=
  bif (a1.fWay != b5.fWay) then some (false) else obind (d_laws_eqPallet fu a1.fPallet b5.fPallet) fun Aa=>bif (!Aa) then some (false) else bif (a1.fClasses != b5.fClasses) then some (false) else obind (d_laws_eqPairS fu a1.fPairs b5.fPairs) fun Ab=>bif (!Ab) then some (false) else obind (d_laws_eqTypeS fu a1.fTypes b5.fTypes) fun Ac=>bif (!Ac) then some (false) else bif (a1.fMaster != b5.fMaster) then some (false) else obind (d_laws_eqItemS fu a1.fItems b5.fItems) fun Ad=>bif (!Ad) then some (false) else some (true)

def d_laws_eqIntS_L1_B (fu:Nat)  (a1:List Int) (b5:List Int) (k1:Int → Option (Bool)) (Aa:Int):Option (Bool) :=
  bif (decide (Aa < ((a1.length:Int)))) then obind (ix a1 Aa) fun Ac=>obind (ix b5 Aa) fun Ab=>bif (Ac != Ab) then some (false) else k1 (w64 (Aa + 1)) else some (true)
def d_laws_eqIntS_L1 (fu:Nat)  (a1:List Int) (b5:List Int):Nat → Int → Option (Bool)
  | 0=>fun _=>none
  | n + 1=>d_laws_eqIntS_L1_B fu a1 b5 (d_laws_eqIntS_L1 fu a1 b5 n)
theorem d_laws_eqIntS_L1_s (fu:Nat)  (a1:List Int) (b5:List Int) (n:Nat):d_laws_eqIntS_L1 fu a1 b5 (n + 1) = d_laws_eqIntS_L1_B fu a1 b5 (d_laws_eqIntS_L1 fu a1 b5 n):=z

def d_laws_eqIntS (fu:Nat) (a1:List Int) (b5:List Int):Option (Bool) :=
  bif (((a1.length:Int)) != ((b5.length:Int))) then some (false) else d_laws_eqIntS_L1 fu a1 b5 fu 0

def d_laws_eqCarton (fu:Nat) (a1:Carton) (b5:Carton):Option (Bool) :=
  bif (a1.fType != b5.fType) then some (false) else bif (a1.fGroup != b5.fGroup) then some (false) else obind (d_laws_eqIntS fu a1.fUnits b5.fUnits) fun Aa=>bif (!Aa) then some (false) else some (true)

def d_laws_eqCartonS_L1_B (fu:Nat)  (a1:List Carton) (b5:List Carton) (k1:Int → Option (Bool)) (Aa:Int):Option (Bool) :=
  bif (decide (Aa < ((a1.length:Int)))) then obind (ix a1 Aa) fun Ad=>obind (ix b5 Aa) fun Ab=>obind (d_laws_eqCarton fu Ad Ab) fun Ac=>bif (!Ac) then some (false) else k1 (w64 (Aa + 1)) else some (true)
def d_laws_eqCartonS_L1 (fu:Nat)  (a1:List Carton) (b5:List Carton):Nat → Int → Option (Bool)
  | 0=>fun _=>none
  | n + 1=>d_laws_eqCartonS_L1_B fu a1 b5 (d_laws_eqCartonS_L1 fu a1 b5 n)
theorem d_laws_eqCartonS_L1_s (fu:Nat)  (a1:List Carton) (b5:List Carton) (n:Nat):d_laws_eqCartonS_L1 fu a1 b5 (n + 1) = d_laws_eqCartonS_L1_B fu a1 b5 (d_laws_eqCartonS_L1 fu a1 b5 n):=z

def d_laws_eqCartonS (fu:Nat) (a1:List Carton) (b5:List Carton):Option (Bool) :=
  bif (((a1.length:Int)) != ((b5.length:Int))) then some (false) else d_laws_eqCartonS_L1 fu a1 b5 fu 0

def d_laws_eqSpot (fu:Nat) (a1:Spot) (b2:Spot):Option (Bool) :=
  bif (a1.fPallet != b2.fPallet) then some (false) else bif (a1.fX != b2.fX) then some (false) else bif (a1.fY != b2.fY) then some (false) else bif (a1.fZ != b2.fZ) then some (false) else some (true)

def d_laws_eqSpotS_L1_B (fu:Nat)  (a1:List Spot) (b5:List Spot) (k1:Int → Option (Bool)) (Aa:Int):Option (Bool) :=
  bif (decide (Aa < ((a1.length:Int)))) then obind (ix a1 Aa) fun Ac=>obind (ix b5 Aa) fun Ab=>obind (d_laws_eqSpot fu Ac Ab) fun Ad=>bif (!Ad) then some (false) else k1 (w64 (Aa + 1)) else some (true)
def d_laws_eqSpotS_L1 (fu:Nat)  (a1:List Spot) (b5:List Spot):Nat → Int → Option (Bool)
  | 0=>fun _=>none
  | n + 1=>d_laws_eqSpotS_L1_B fu a1 b5 (d_laws_eqSpotS_L1 fu a1 b5 n)
theorem d_laws_eqSpotS_L1_s (fu:Nat)  (a1:List Spot) (b5:List Spot) (n:Nat):d_laws_eqSpotS_L1 fu a1 b5 (n + 1) = d_laws_eqSpotS_L1_B fu a1 b5 (d_laws_eqSpotS_L1 fu a1 b5 n):=z

def d_laws_eqSpotS (fu:Nat) (a1:List Spot) (b5:List Spot):Option (Bool) :=
  bif (((a1.length:Int)) != ((b5.length:Int))) then some (false) else d_laws_eqSpotS_L1 fu a1 b5 fu 0

def d_laws_eqPlan (fu:Nat) (a1:Plan) (b5:Plan):Option (Bool) :=
  obind (d_laws_eqCartonS fu a1.fCartons b5.fCartons) fun Aa=>bif (!Aa) then some (false) else obind (d_laws_eqSpotS fu a1.fSpots b5.fSpots) fun Ab=>bif (!Ab) then some (false) else some (true)

end Go.Proofs.YtkkfmjpbiimkbaaGreat
