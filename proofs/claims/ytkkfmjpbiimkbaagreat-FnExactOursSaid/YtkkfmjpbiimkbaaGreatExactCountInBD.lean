/- FnExactCountIn: what the functions that it reaches compute,on plain data. Printed by gen.py. -/
import Derived.Test.YtkkfmjpbiimkbaaGreatS13
import Derived.Test.YtkkfmjpbiimkbaaGreatS15
set_option linter.unusedVariables false
namespace Go.Proofs.YtkkfmjpbiimkbaaGreat
open Go
def d_laws_szPairS (fu:Nat) (a1:List Pair) (Aa:Int):Option (Int) :=
  bif (decide ((w64 (Aa - ((a1.length:Int)))) < 0)) then some ((-1)) else some (w64 (Aa - ((a1.length:Int))))

def d_laws_szTypeS (fu:Nat) (a1:List Typ) (Aa:Int):Option (Int) :=
  bif (decide ((w64 (Aa - ((a1.length:Int)))) < 0)) then some ((-1)) else some (w64 (Aa - ((a1.length:Int))))

def d_laws_szItemS (fu:Nat) (a1:List Item) (Aa:Int):Option (Int) :=
  bif (decide ((w64 (Aa - ((a1.length:Int)))) < 0)) then some ((-1)) else some (w64 (Aa - ((a1.length:Int))))

def d_laws_szRequest (fu:Nat) (a1:Request) (Ad:Int):Option (Int) :=
  obind (d_laws_szPairS fu a1.fPairs Ad) fun Aa=>bif (decide (Aa < 0)) then some ((-1)) else obind (d_laws_szTypeS fu a1.fTypes Aa) fun Ac=>bif (decide (Ac < 0)) then some ((-1)) else obind (d_laws_szItemS fu a1.fItems Ac) fun Ab=>bif (decide (Ab < 0)) then some ((-1)) else some (Ab)

def d_laws_toPallet (fu:Nat) (a1:Pallet):Option (Pallet) :=
  some (a1)

def d_laws_toPair (fu:Nat) (a1:Pair):Option (Pair) :=
  some (a1)

def d_laws_toPairS_L1_B (fu:Nat)  (a1:List Pair) (k1:List Pair → Int → Option ((List Pair))) (Ab:List Pair) (Aa:Int):Option ((List Pair)) :=
  bif (decide (Aa < ((a1.length:Int)))) then obind (ix a1 Aa) fun Ac=>obind (d_laws_toPair fu Ac) fun Ad=>obind (ix Ab Aa) fun Ae=>k1 (setx Ab Aa Ad) (w64 (Aa + 1)) else some (Ab)
def d_laws_toPairS_L1 (fu:Nat)  (a1:List Pair):Nat → List Pair → Int → Option ((List Pair))
  | 0=>fun _ _=>none
  | n + 1=>d_laws_toPairS_L1_B fu a1 (d_laws_toPairS_L1 fu a1 n)

def d_laws_toPairS (fu:Nat) (a1:List Pair):Option ((List Pair)) :=
  obind (mk 16 (⟨(0:Int),(0:Int)⟩:Pair) ((a1.length:Int))) fun x5=>d_laws_toPairS_L1 fu a1 fu x5 0

def d_laws_toType (fu:Nat) (a1:Typ):Option (Typ) :=
  some (a1)

def d_laws_toTypeS_L1_B (fu:Nat)  (a1:List Typ) (k1:List Typ → Int → Option ((List Typ))) (Ab:List Typ) (Aa:Int):Option ((List Typ)) :=
  bif (decide (Aa < ((a1.length:Int)))) then obind (ix a1 Aa) fun Ac=>obind (d_laws_toType fu Ac) fun Ad=>obind (ix Ab Aa) fun Ae=>k1 (setx Ab Aa Ad) (w64 (Aa + 1)) else some (Ab)
def d_laws_toTypeS_L1 (fu:Nat)  (a1:List Typ):Nat → List Typ → Int → Option ((List Typ))
  | 0=>fun _ _=>none
  | n + 1=>d_laws_toTypeS_L1_B fu a1 (d_laws_toTypeS_L1 fu a1 n)

def d_laws_toTypeS (fu:Nat) (a1:List Typ):Option ((List Typ)) :=
  obind (mk 56 (⟨(0:Int),(0:Int),(0:Int),(0:Int),(0:Int),(0:Int),(0:Int)⟩:Typ) ((a1.length:Int))) fun x5=>d_laws_toTypeS_L1 fu a1 fu x5 0

def d_laws_toItem (fu:Nat) (a1:Item):Option (Item) :=
  some (a1)

def d_laws_toItemS_L1_B (fu:Nat)  (a1:List Item) (k1:List Item → Int → Option ((List Item))) (Ab:List Item) (Aa:Int):Option ((List Item)) :=
  bif (decide (Aa < ((a1.length:Int)))) then obind (ix a1 Aa) fun Ac=>obind (d_laws_toItem fu Ac) fun Ad=>obind (ix Ab Aa) fun Ae=>k1 (setx Ab Aa Ad) (w64 (Aa + 1)) else some (Ab)
def d_laws_toItemS_L1 (fu:Nat)  (a1:List Item):Nat → List Item → Int → Option ((List Item))
  | 0=>fun _ _=>none
  | n + 1=>d_laws_toItemS_L1_B fu a1 (d_laws_toItemS_L1 fu a1 n)

def d_laws_toItemS (fu:Nat) (a1:List Item):Option ((List Item)) :=
  obind (mk 56 (⟨(0:Int),(0:Int),(0:Int),(0:Int),(0:Int),(0:Int),(0:Int)⟩:Item) ((a1.length:Int))) fun x5=>d_laws_toItemS_L1 fu a1 fu x5 0

def d_laws_toRequest (fu:Nat) (a1:Request):Option (Request) :=
  obind (d_laws_toPallet fu a1.fPallet) fun Aa=>obind (d_laws_toPairS fu a1.fPairs) fun Ac=>obind (d_laws_toTypeS fu a1.fTypes) fun Ad=>obind (d_laws_toItemS fu a1.fItems) fun Ab=>some ((⟨a1.fWay,Aa,a1.fClasses,Ac,Ad,a1.fMaster,Ab⟩:Request))

def d_spec_l1In (fu:Nat) (x1:Int) (Aa:Int) (Ab:Int):Option (Bool) :=
  bif (decide (x1 ≥ Aa)) then some (decide (x1 ≤ Ab)) else some (false)

def d_spec_l2Side (fu:Nat) (x1:Int):Option (Bool) :=
  obind (d_spec_l1In fu x1 1 2000) fun x2=>some (x2)

def d_spec_PalletOk (fu:Nat) (x1:Pallet):Option (Bool) :=
  obind (d_spec_l2Side fu x1.fW) fun x5=>bif x5 then obind (d_spec_l2Side fu x1.fD) fun Aa=>bif Aa then obind (d_spec_l2Side fu x1.fH) fun Ac=>bif Ac then obind (d_spec_l1In fu x1.fGram 1 100000) fun Ab=>some (Ab) else some (false) else some (false) else some (false)

def d_spec_l2Id (fu:Nat) (x1:Int):Option (Bool) :=
  obind (d_spec_l1In fu x1 0 999) fun x2=>some (x2)

def d_spec_TypeOk (fu:Nat) (x1:Typ):Option (Bool) :=
  obind (d_spec_l2Id fu x1.fId) fun x5=>bif x5 then obind (d_spec_l2Side fu x1.fW) fun Af=>bif Af then obind (d_spec_l2Side fu x1.fH) fun Ad=>bif Ad then obind (d_spec_l2Side fu x1.fD) fun Ac=>bif Ac then obind (d_spec_l1In fu x1.fTare 0 100000) fun Ae=>bif Ae then obind (d_spec_l1In fu x1.fGram 1 100000) fun Ab=>bif Ab then obind (d_spec_l1In fu x1.fCost 0 100000) fun Aa=>some (Aa) else some (false) else some (false) else some (false) else some (false) else some (false) else some (false)

def d_spec_ItemOk (fu:Nat) (x1:Item):Option (Bool) :=
  obind (d_spec_l2Id fu x1.fId) fun x5=>bif x5 then obind (d_spec_l2Side fu x1.fW) fun Af=>bif Af then obind (d_spec_l2Side fu x1.fH) fun Ad=>bif Ad then obind (d_spec_l2Side fu x1.fD) fun Ac=>bif Ac then obind (d_spec_l1In fu x1.fGram 1 100000) fun Ae=>bif Ae then obind (d_spec_l1In fu x1.fClass 0 3) fun Ab=>bif Ab then obind (d_spec_l1In fu x1.fCount 1 6) fun Aa=>some (Aa) else some (false) else some (false) else some (false) else some (false) else some (false) else some (false)

def d_spec_BoundsOk_J1 (fu:Nat) (k4:Int → Option (Bool)) (Aa:Int)  : Option (Bool) :=
  k4 (w64 (Aa + 1))

def d_spec_BoundsOk_L1_B (fu:Nat)  (r1:Request) (k7:Int → Int → Option (Bool)) (Ab:Int) (Aa:Int):Option (Bool) :=
  bif (decide (Aa < ((r1.fItems.length:Int)))) then obind (ix r1.fItems Aa) fun Ac=>obind (d_spec_ItemOk fu Ac) fun Ad=>bif (!Ad) then some (false) else obind (ix r1.fItems Aa) fun Ae=>k7 (w64 (Ab + Ac.fCount)) (w64 (Aa + 1)) else some (decide (Ab ≤ 12))
def d_spec_BoundsOk_L1 (fu:Nat)  (r1:Request):Nat → Int → Int → Option (Bool)
  | 0=>fun _ _=>none
  | n + 1=>d_spec_BoundsOk_L1_B fu r1 (d_spec_BoundsOk_L1 fu r1 n)

def d_spec_BoundsOk_L2_B (fu:Nat)  (r1:Request) (k6:Int → Option (Bool)) (Aa:Int):Option (Bool) :=
  bif (decide (Aa < ((r1.fTypes.length:Int)))) then obind (ix r1.fTypes Aa) fun Ac=>obind (d_spec_TypeOk fu Ac) fun Ab=>bif (!Ab) then some (false) else k6 (w64 (Aa + 1)) else d_spec_BoundsOk_L1 fu r1 fu 0 0
def d_spec_BoundsOk_L2 (fu:Nat)  (r1:Request):Nat → Int → Option (Bool)
  | 0=>fun _=>none
  | n + 1=>d_spec_BoundsOk_L2_B fu r1 (d_spec_BoundsOk_L2 fu r1 n)

def d_spec_BoundsOk_L3_B (fu:Nat)  (r1:Request) (k4:Int → Option (Bool)) (Aa:Int):Option (Bool) :=
  bif (decide (Aa < ((r1.fPairs.length:Int)))) then obind (ix r1.fPairs Aa) fun Ab=>obind (d_spec_l1In fu Ab.fA 0 3) fun Ac=>bif (!Ac) then some (false) else obind (ix r1.fPairs Aa) fun Ae=>obind (d_spec_l1In fu Ab.fB 0 3) fun Ad=>bif (!Ad) then some (false) else d_spec_BoundsOk_J1 fu k4 Aa else d_spec_BoundsOk_L2 fu r1 fu 0
def d_spec_BoundsOk_L3 (fu:Nat)  (r1:Request):Nat → Int → Option (Bool)
  | 0=>fun _=>none
  | n + 1=>d_spec_BoundsOk_L3_B fu r1 (d_spec_BoundsOk_L3 fu r1 n)

def d_spec_BoundsOk_J2 (fu:Nat) (r1:Request)  : Option (Bool) :=
  d_spec_BoundsOk_L3 fu r1 fu 0

def d_spec_BoundsOk (fu:Nat) (r1:Request):Option (Bool) :=
  obind (d_spec_l1In fu r1.fWay 0 1) fun Ac=>bif (!Ac) then some (false) else obind (d_spec_PalletOk fu r1.fPallet) fun Ae=>bif (!Ae) then some (false) else obind (d_spec_l1In fu r1.fClasses 1 4) fun Aa=>bif (!Aa) then some (false) else bif (decide (((r1.fPairs.length:Int)) > 16)) then some (false) else obind (d_spec_l1In fu ((r1.fTypes.length:Int)) 1 5) fun Ab=>bif (!Ab) then some (false) else obind (d_spec_l2Id fu r1.fMaster) fun Ad=>bif (!Ad) then some (false) else bif (decide (((r1.fItems.length:Int)) > 8)) then some (false) else d_spec_BoundsOk_J2 fu r1

def d_spec_MasterOf_L1_B (fu:Nat)  (r1:Request) (k1:Int → Option (Typ × Bool)) (Aa:Int):Option (Typ × Bool) :=
  bif (decide (Aa < ((r1.fTypes.length:Int)))) then obind (ix r1.fTypes Aa) fun Ab=>bif (Ab.fId == r1.fMaster) then obind (ix r1.fTypes Aa) fun Ac=>some (Ab,true) else k1 (w64 (Aa + 1)) else some ((⟨0,0,0,0,0,0,0⟩:Typ),false)
def d_spec_MasterOf_L1 (fu:Nat)  (r1:Request):Nat → Int → Option (Typ × Bool)
  | 0=>fun _=>none
  | n + 1=>d_spec_MasterOf_L1_B fu r1 (d_spec_MasterOf_L1 fu r1 n)

def d_spec_MasterOf (fu:Nat) (r1:Request):Option (Typ × Bool) :=
  d_spec_MasterOf_L1 fu r1 fu 0

def d_spec_l5Names_L1_B (fu:Nat) (k3:Int → Option (Bool)) (r1:Request) (Ab:Int) (k4:Int → Option (Bool)) (Aa:Int):Option (Bool) :=
  bif (decide (Aa < Ab)) then obind (ix r1.fTypes Ab) fun Ac=>obind (ix r1.fTypes Aa) fun Ad=>bif (Ac.fId == Ad.fId) then some (false) else k4 (w64 (Aa + 1)) else k3 (w64 (Ab + 1))
def d_spec_l5Names_L1 (fu:Nat) (k3:Int → Option (Bool)) (r1:Request) (Aa:Int):Nat → Int → Option (Bool)
  | 0=>fun _=>none
  | n + 1=>d_spec_l5Names_L1_B fu k3 r1 Aa (d_spec_l5Names_L1 fu k3 r1 Aa n)

def d_spec_l5Names_L2_B (fu:Nat) (k7:Int → Option (Bool)) (r1:Request) (Aa:Int) (k8:Int → Option (Bool)) (Ab:Int):Option (Bool) :=
  bif (decide (Ab < Aa)) then obind (ix r1.fItems Aa) fun Ac=>obind (ix r1.fItems Ab) fun Ad=>bif (Ac.fId == Ad.fId) then some (false) else k8 (w64 (Ab + 1)) else k7 (w64 (Aa + 1))
def d_spec_l5Names_L2 (fu:Nat) (k7:Int → Option (Bool)) (r1:Request) (Aa:Int):Nat → Int → Option (Bool)
  | 0=>fun _=>none
  | n + 1=>d_spec_l5Names_L2_B fu k7 r1 Aa (d_spec_l5Names_L2 fu k7 r1 Aa n)

def d_spec_l5Names_J1 (fu:Nat) (Aa:Int → Option (Bool)) (Ab:Int)  : Option (Bool) :=
  Aa (w64 (Ab + 1))

def d_spec_l5Names_L3_B (fu:Nat)  (r1:Request) (Ac:Int → Option (Bool)) (Aa:Int):Option (Bool) :=
  bif (decide (Aa < ((r1.fPairs.length:Int)))) then obind (ix r1.fPairs Aa) fun Ab=>bif (decide (Ab.fA ≥ r1.fClasses)) then some (false) else obind (ix r1.fPairs Aa) fun Ae=>bif (decide (Ab.fB ≥ r1.fClasses)) then some (false) else d_spec_l5Names_J1 fu Ac Aa else obind (d_spec_MasterOf fu r1) fun Ad=>some (Ad.2)
def d_spec_l5Names_L3 (fu:Nat)  (r1:Request):Nat → Int → Option (Bool)
  | 0=>fun _=>none
  | n + 1=>d_spec_l5Names_L3_B fu r1 (d_spec_l5Names_L3 fu r1 n)

def d_spec_l5Names_L4_B (fu:Nat)  (r1:Request) (k7:Int → Option (Bool)) (Aa:Int):Option (Bool) :=
  bif (decide (Aa < ((r1.fItems.length:Int)))) then obind (ix r1.fItems Aa) fun Ab=>bif (decide (Ab.fClass ≥ r1.fClasses)) then some (false) else d_spec_l5Names_L2 fu k7 r1 Aa fu 0 else d_spec_l5Names_L3 fu r1 fu 0
def d_spec_l5Names_L4 (fu:Nat)  (r1:Request):Nat → Int → Option (Bool)
  | 0=>fun _=>none
  | n + 1=>d_spec_l5Names_L4_B fu r1 (d_spec_l5Names_L4 fu r1 n)

def d_spec_l5Names_L5_B (fu:Nat)  (r1:Request) (k3:Int → Option (Bool)) (Aa:Int):Option (Bool) :=
  bif (decide (Aa < ((r1.fTypes.length:Int)))) then d_spec_l5Names_L1 fu k3 r1 Aa fu 0 else d_spec_l5Names_L4 fu r1 fu 0
def d_spec_l5Names_L5 (fu:Nat)  (r1:Request):Nat → Int → Option (Bool)
  | 0=>fun _=>none
  | n + 1=>d_spec_l5Names_L5_B fu r1 (d_spec_l5Names_L5 fu r1 n)

def d_spec_l5Names (fu:Nat) (r1:Request):Option (Bool) :=
  d_spec_l5Names_L5 fu r1 fu 0

def d_spec_Beside_J1 (fu:Nat) (k3:Int → Option (Bool)) (Aa:Int)  : Option (Bool) :=
  k3 (w64 (Aa + 1))

def d_spec_Beside_L1_B (fu:Nat)  (Ab:List Pair) (a5:Int) (b6:Int) (k3:Int → Option (Bool)) (Aa:Int):Option (Bool) :=
  bif (decide (Aa < ((Ab.length:Int)))) then obind (ix Ab Aa) fun Ac=>bif (Ac.fA == a5) then obind (ix Ab Aa) fun Ad=>bif (Ac.fB == b6) then some (true) else d_spec_Beside_J1 fu k3 Aa else d_spec_Beside_J1 fu k3 Aa else some (false)
def d_spec_Beside_L1 (fu:Nat)  (Aa:List Pair) (a5:Int) (b6:Int):Nat → Int → Option (Bool)
  | 0=>fun _=>none
  | n + 1=>d_spec_Beside_L1_B fu Aa a5 b6 (d_spec_Beside_L1 fu Aa a5 b6 n)

def d_spec_Beside (fu:Nat) (Aa:List Pair) (a5:Int) (b6:Int):Option (Bool) :=
  d_spec_Beside_L1 fu Aa a5 b6 fu 0

def d_spec_TableOk_J1 (fu:Nat) (Ab:Int → Option (Bool)) (Aa:Int)  : Option (Bool) :=
  Ab (w64 (Aa + 1))

def d_spec_TableOk_L1_B (fu:Nat) (k9:Int → Option (Bool)) (Ac:List Pair) (Af:Int) (Aa:Int) (Ad:Int → Option (Bool)) (Ab:Int):Option (Bool) :=
  bif (decide (Ab < Af)) then bif (Aa == Ab) then obind (d_spec_Beside fu Ac Aa Aa) fun Ae=>bif (!Ae) then some (false) else obind (d_spec_Beside fu Ac Aa Ab) fun Ai=>obind (d_spec_Beside fu Ac Ab Aa) fun Ah=>bif (!(Ai == Ah)) then some (false) else d_spec_TableOk_J1 fu Ad Ab else obind (d_spec_Beside fu Ac Aa Ab) fun Aj=>obind (d_spec_Beside fu Ac Ab Aa) fun Ag=>bif (!(Aj == Ag)) then some (false) else d_spec_TableOk_J1 fu Ad Ab else k9 (w64 (Aa + 1))
def d_spec_TableOk_L1 (fu:Nat) (k9:Int → Option (Bool)) (Ab:List Pair) (Ac:Int) (Aa:Int):Nat → Int → Option (Bool)
  | 0=>fun _=>none
  | n + 1=>d_spec_TableOk_L1_B fu k9 Ab Ac Aa (d_spec_TableOk_L1 fu k9 Ab Ac Aa n)

def d_spec_TableOk_L2_B (fu:Nat)  (Ac:List Pair) (Ab:Int) (k9:Int → Option (Bool)) (Aa:Int):Option (Bool) :=
  bif (decide (Aa < Ab)) then d_spec_TableOk_L1 fu k9 Ac Ab Aa fu 0 else some (true)
def d_spec_TableOk_L2 (fu:Nat)  (Aa:List Pair) (Ab:Int):Nat → Int → Option (Bool)
  | 0=>fun _=>none
  | n + 1=>d_spec_TableOk_L2_B fu Aa Ab (d_spec_TableOk_L2 fu Aa Ab n)

def d_spec_TableOk (fu:Nat) (Ab:List Pair) (Aa:Int):Option (Bool) :=
  obind (d_spec_l1In fu Aa 1 4) fun x6=>bif (!x6) then some (false) else d_spec_TableOk_L2 fu Ab Aa fu 0

def d_spec_l1Places_L1_B (fu:Nat)  (n1:Int) (k1:List Int → Int → Option ((List Int))) (Ab:List Int) (Aa:Int):Option ((List Int)) :=
  bif (decide (Aa < n1)) then obind (apnd 8 Ab (([Aa]:List Int))) fun Ac=>k1 Ac (w64 (Aa + 1)) else some (Ab)
def d_spec_l1Places_L1 (fu:Nat)  (n1:Int):Nat → List Int → Int → Option ((List Int))
  | 0=>fun _ _=>none
  | n + 1=>d_spec_l1Places_L1_B fu n1 (d_spec_l1Places_L1 fu n1 n)

def d_spec_l1Places (fu:Nat) (n1:Int):Option ((List Int)) :=
  d_spec_l1Places_L1 fu n1 fu (([]:List Int)) 0

def d_spec_l1Merge_J1 (fu:Nat) (k3:List Int → Int → Int → Option ((List Int))) (Ag:List Int) (Aj:Bool) (Ac:(List Int)) (Ae:(List Int)) (Ad:List Int) (Aa:Int) (Ab:Int)  : Option ((List Int)) :=
  bif (Ab == ((Ae.length:Int))) then obind (ix Ac Aa) fun Ao=>obind (apnd 8 Ad (([Ao]:List Int))) fun Av=>k3 Av (w64 (Aa + 1)) Ab else bif (Aa == ((Ac.length:Int))) then obind (ix Ae Ab) fun At=>obind (apnd 8 Ad (([At]:List Int))) fun Al=>k3 Al Aa (w64 (Ab + 1)) else obind (ix Ae Ab) fun Ah=>obind (ix Ag Ah) fun Ai=>obind (ix Ac Aa) fun Af=>obind (ix Ag Af) fun Ak=>bif (decide (Ai < Ak)) then bif (!Aj) then obind (ix Ae Ab) fun Ba=>obind (apnd 8 Ad (([Ah]:List Int))) fun Ap=>k3 Ap Aa (w64 (Ab + 1)) else obind (ix Ae Ab) fun Bl=>obind (ix Ag Ah) fun Bj=>obind (ix Ac Aa) fun Be=>obind (ix Ag Af) fun Bb=>bif (decide (Ai > Ak)) then bif Aj then obind (ix Ae Ab) fun Bk=>obind (apnd 8 Ad (([Ah]:List Int))) fun Au=>k3 Au Aa (w64 (Ab + 1)) else obind (ix Ac Aa) fun Bi=>obind (apnd 8 Ad (([Af]:List Int))) fun Ar=>k3 Ar (w64 (Aa + 1)) Ab else obind (ix Ac Aa) fun Bf=>obind (apnd 8 Ad (([Af]:List Int))) fun Am=>k3 Am (w64 (Aa + 1)) Ab else obind (ix Ae Ab) fun Az=>obind (ix Ag Ah) fun Bc=>obind (ix Ac Aa) fun Bh=>obind (ix Ag Af) fun Ay=>bif (decide (Ai > Ak)) then bif Aj then obind (ix Ae Ab) fun Bd=>obind (apnd 8 Ad (([Ah]:List Int))) fun As=>k3 As Aa (w64 (Ab + 1)) else obind (ix Ac Aa) fun Bg=>obind (apnd 8 Ad (([Af]:List Int))) fun Aw=>k3 Aw (w64 (Aa + 1)) Ab else obind (ix Ac Aa) fun Ax=>obind (apnd 8 Ad (([Af]:List Int))) fun Aq=>k3 Aq (w64 (Aa + 1)) Ab

def d_spec_l1Merge_L1_B (fu:Nat)  (Ag:List Int) (Af:Bool) (Ab:(List Int)) (Ad:(List Int)) (k3:List Int → Int → Int → Option ((List Int))) (Ac:List Int) (Ae:Int) (Aa:Int):Option ((List Int)) :=
  bif (decide (Ae < ((Ab.length:Int)))) then d_spec_l1Merge_J1 fu k3 Ag Af Ab Ad Ac Ae Aa else bif (decide (Aa < ((Ad.length:Int)))) then d_spec_l1Merge_J1 fu k3 Ag Af Ab Ad Ac Ae Aa else some (Ac)
def d_spec_l1Merge_L1 (fu:Nat)  (Ab:List Int) (Ac:Bool) (Ad:(List Int)) (Aa:(List Int)):Nat → List Int → Int → Int → Option ((List Int))
  | 0=>fun _ _ _=>none
  | n + 1=>d_spec_l1Merge_L1_B fu Ab Ac Ad Aa (d_spec_l1Merge_L1 fu Ab Ac Ad Aa n)

def d_spec_l1Merge_RB (fu:Nat) (self:List Int → List Int → Bool → Option ((List Int))) (Ac:List Int) (Aa:List Int) (Ab:Bool):Option ((List Int)) :=
  bif (decide (((Aa.length:Int)) < 2)) then obind (apnd 8 (([]:List Int)) Aa) fun Ag=>some (Ag) else obind (sls Aa 0 (w64 (Int.tdiv ((Aa.length:Int)) 2))) fun Af=>obind (self Ac Af Ab) fun Ae=>obind (sls Aa (w64 (Int.tdiv ((Aa.length:Int)) 2)) (Aa.length:Int)) fun Ad=>obind (self Ac Ad Ab) fun Ah=>d_spec_l1Merge_L1 fu Ac Ab Ae Ah fu (([]:List Int)) 0 0
def d_spec_l1Merge_R (fu:Nat):Nat → List Int → List Int → Bool → Option ((List Int))
  | 0=>fun _ _ _=>none
  | n + 1=>d_spec_l1Merge_RB fu (d_spec_l1Merge_R fu n)
def d_spec_l1Merge (fu:Nat) (Aa:List Int) (Ac:List Int) (Ab:Bool):Option ((List Int)):=d_spec_l1Merge_R fu fu Aa Ac Ab

def d_spec_SortUp (fu:Nat) (Aa:List Int):Option ((List Int)) :=
  obind (d_spec_l1Places fu ((Aa.length:Int))) fun x5=>obind (d_spec_l1Merge fu Aa x5 false) fun Ab=>some (Ab)

def d_spec_l5Sides (fu:Nat) (Aa:Int) (h2:Int) (d3:Int):Option ((List Int)) :=
  obind (d_spec_SortUp fu (([Aa,h2,d3]:List Int))) fun x9=>obind (ix x9 0) fun Ac=>obind (ix (([Aa,h2,d3]:List Int)) Ac) fun Ae=>obind (ix x9 1) fun Ag=>obind (ix (([Aa,h2,d3]:List Int)) Ag) fun Ab=>obind (ix x9 2) fun Ad=>obind (ix (([Aa,h2,d3]:List Int)) Ad) fun Af=>some (([Ae,Ab,Af]:List Int))

def d_spec_Fits (fu:Nat) (x1:Item) (t2:Typ):Option (Bool) :=
  obind (d_spec_l5Sides fu x1.fW x1.fH x1.fD) fun Ab=>obind (d_spec_l5Sides fu t2.fW t2.fH t2.fD) fun Aa=>obind (ix Ab 0) fun Ah=>obind (ix Aa 0) fun Ad=>bif (decide (Ah ≤ Ad)) then obind (ix Ab 1) fun Ae=>obind (ix Aa 1) fun Ac=>bif (decide (Ae ≤ Ac)) then obind (ix Ab 2) fun Af=>obind (ix Aa 2) fun Ag=>bif (decide (Af ≤ Ag)) then some (decide (x1.fGram ≤ t2.fGram)) else some (false) else some (false) else some (false)

def d_spec_Class_J1 (fu:Nat) (k4:Int → Option (Int)) (Aa:Int)  : Option (Int) :=
  k4 (w64 (Aa + 1))

def d_spec_Class_L1_B (fu:Nat)  (r1:Request) (k4:Int → Option (Int)) (Ab:Int):Option (Int) :=
  bif (decide (Ab < ((r1.fTypes.length:Int)))) then obind (ix r1.fTypes Ab) fun Aa=>bif (decide (Aa.fW > r1.fPallet.fW)) then some (6) else bif (decide (Aa.fD > r1.fPallet.fD)) then some (6) else bif (decide (Aa.fH > r1.fPallet.fH)) then some (6) else bif (decide ((w64 (Aa.fTare + Aa.fGram)) > r1.fPallet.fGram)) then some (6) else d_spec_Class_J1 fu k4 Ab else some (0)
def d_spec_Class_L1 (fu:Nat)  (r1:Request):Nat → Int → Option (Int)
  | 0=>fun _=>none
  | n + 1=>d_spec_Class_L1_B fu r1 (d_spec_Class_L1 fu r1 n)

def d_spec_Class_L2_B (fu:Nat)  (r1:Request) (Ac:Typ × Bool) (k1:Int → Option (Int)) (Aa:Int):Option (Int) :=
  bif (decide (Aa < ((r1.fItems.length:Int)))) then obind (ix r1.fItems Aa) fun Ab=>obind (d_spec_Fits fu Ab Ac.1) fun Ad=>bif (!Ad) then some (5) else k1 (w64 (Aa + 1)) else d_spec_Class_L1 fu r1 fu 0
def d_spec_Class_L2 (fu:Nat)  (r1:Request) (Aa:Typ × Bool):Nat → Int → Option (Int)
  | 0=>fun _=>none
  | n + 1=>d_spec_Class_L2_B fu r1 Aa (d_spec_Class_L2 fu r1 Aa n)

def d_spec_Class (fu:Nat) (r1:Request):Option (Int) :=
  obind (d_spec_BoundsOk fu r1) fun Ab=>bif (!Ab) then some (2) else obind (d_spec_l5Names fu r1) fun Ac=>bif (!Ac) then some (3) else obind (d_spec_TableOk fu r1.fPairs r1.fClasses) fun Ad=>bif (!Ad) then some (4) else obind (d_spec_MasterOf fu r1) fun Aa=>d_spec_Class_L2 fu r1 Aa fu 0

def d_spec_Present_J1 (fu:Nat) (Ab:List Int → Int → Option ((List Int))) (Ac:Int) (Aa:List Int):Option ((List Int)) :=
  Ab Aa (w64 (Ac + 1))

def d_spec_Present_J2 (fu:Nat) (Ab:Bool → Int → Option ((List Int))) (Ac:Int) (Aa:Bool):Option ((List Int)) :=
  Ab Aa (w64 (Ac + 1))

def d_spec_Present_L1_B (fu:Nat) (Ae:List Int → Int → Option ((List Int))) (r1:Request) (Ac:List Int) (Ab:Int) (Af:Bool → Int → Option ((List Int))) (Ad:Bool) (Aa:Int):Option ((List Int)) :=
  bif (decide (Aa < ((r1.fItems.length:Int)))) then bif Ad then d_spec_Present_J2 fu Af Aa true else obind (ix r1.fItems Aa) fun Ah=>d_spec_Present_J2 fu Af Aa (Ah.fClass == Ab) else bif Ad then obind (apnd 8 Ac (([Ab]:List Int))) fun Ag=>d_spec_Present_J1 fu Ae Ab Ag else d_spec_Present_J1 fu Ae Ab Ac
def d_spec_Present_L1 (fu:Nat) (Aa:List Int → Int → Option ((List Int))) (r1:Request) (Ab:List Int) (Ac:Int):Nat → Bool → Int → Option ((List Int))
  | 0=>fun _ _=>none
  | n + 1=>d_spec_Present_L1_B fu Aa r1 Ab Ac (d_spec_Present_L1 fu Aa r1 Ab Ac n)

def d_spec_Present_L2_B (fu:Nat)  (r1:Request) (Ac:List Int → Int → Option ((List Int))) (Aa:List Int) (Ab:Int):Option ((List Int)) :=
  bif (decide (Ab < 4)) then d_spec_Present_L1 fu Ac r1 Aa Ab fu false 0 else some (Aa)
def d_spec_Present_L2 (fu:Nat)  (r1:Request):Nat → List Int → Int → Option ((List Int))
  | 0=>fun _ _=>none
  | n + 1=>d_spec_Present_L2_B fu r1 (d_spec_Present_L2 fu r1 n)

def d_spec_Present (fu:Nat) (r1:Request):Option ((List Int)) :=
  obind (d_spec_Class fu r1) fun Aa=>bif (Aa != 0) then some (([]:List Int)) else d_spec_Present_L2 fu r1 fu (([]:List Int)) 0

def d_spec_l1Has_L1_B (fu:Nat)  (Ab:List Int) (x5:Int) (k1:Int → Option (Bool)) (Aa:Int):Option (Bool) :=
  bif (decide (Aa < ((Ab.length:Int)))) then obind (ix Ab Aa) fun Ac=>bif (Ac == x5) then some (true) else k1 (w64 (Aa + 1)) else some (false)
def d_spec_l1Has_L1 (fu:Nat)  (Aa:List Int) (x5:Int):Nat → Int → Option (Bool)
  | 0=>fun _=>none
  | n + 1=>d_spec_l1Has_L1_B fu Aa x5 (d_spec_l1Has_L1 fu Aa x5 n)

def d_spec_l1Has (fu:Nat) (Aa:List Int) (x5:Int):Option (Bool) :=
  d_spec_l1Has_L1 fu Aa x5 fu 0

def d_spec_l3Joins_J1 (fu:Nat) (k3:Int → Option (Bool)) (Aa:Int)  : Option (Bool) :=
  k3 (w64 (Aa + 1))

def d_spec_l3Joins_L1_B (fu:Nat)  (Ad:List Pair) (Ab:List Int) (Ae:Int) (k3:Int → Option (Bool)) (Aa:Int):Option (Bool) :=
  bif (decide (Aa < ((Ab.length:Int)))) then obind (ix Ab Aa) fun Ac=>obind (d_spec_Beside fu Ad Ac Ae) fun Ag=>bif (!Ag) then some (false) else obind (ix Ab Aa) fun Ah=>obind (d_spec_Beside fu Ad Ae Ac) fun Af=>bif (!Af) then some (false) else d_spec_l3Joins_J1 fu k3 Aa else some (true)
def d_spec_l3Joins_L1 (fu:Nat)  (Ab:List Pair) (Aa:List Int) (Ac:Int):Nat → Int → Option (Bool)
  | 0=>fun _=>none
  | n + 1=>d_spec_l3Joins_L1_B fu Ab Aa Ac (d_spec_l3Joins_L1 fu Ab Aa Ac n)

def d_spec_l3Joins (fu:Nat) (Ab:List Pair) (Aa:List Int) (Ac:Int):Option (Bool) :=
  d_spec_l3Joins_L1 fu Ab Aa Ac fu 0

def d_spec_Groups_J1 (fu:Nat) (Aa:List (List Int) → Int → Option ((List (List Int)))) (Ab:Int) (Ac:List (List Int)):Option ((List (List Int))) :=
  Aa Ac (w64 (Ab + 1))

def d_spec_Groups_J2 (fu:Nat) (Ab:Int → Int → Option ((List (List Int)))) (Ac:Int) (Aa:Int):Option ((List (List Int))) :=
  Ab Aa (w64 (Ac - 1))

def d_spec_Groups_L1_B (fu:Nat) (Ae:List (List Int) → Int → Option ((List (List Int)))) (Al:List Pair) (Ab:List (List Int)) (Ac:Int) (Af:Int → Int → Option ((List (List Int)))) (Aa:Int) (Ad:Int):Option ((List (List Int))) :=
  bif (decide (Ad ≥ 0)) then obind (ix Ab Ad) fun Ai=>obind (d_spec_l3Joins fu Al Ai Ac) fun Ag=>bif Ag then d_spec_Groups_J2 fu Af Ad Ad else d_spec_Groups_J2 fu Af Ad Aa else bif (decide (Aa < 0)) then obind (apnd 24 Ab [([Ac]:List Int)]) fun Aj=>d_spec_Groups_J1 fu Ae Ac Aj else obind (ix Ab Aa) fun Ah=>obind (apnd 8 Ah (([Ac]:List Int))) fun Ak=>obind (ix Ab Aa) fun Am=>d_spec_Groups_J1 fu Ae Ac (setx Ab Aa Ak)
def d_spec_Groups_L1 (fu:Nat) (Ab:List (List Int) → Int → Option ((List (List Int)))) (Ad:List Pair) (Aa:List (List Int)) (Ac:Int):Nat → Int → Int → Option ((List (List Int)))
  | 0=>fun _ _=>none
  | n + 1=>d_spec_Groups_L1_B fu Ab Ad Aa Ac (d_spec_Groups_L1 fu Ab Ad Aa Ac n)

def d_spec_Groups_L2_B (fu:Nat)  (Af:List Pair) (Ad:List Int) (Ac:List (List Int) → Int → Option ((List (List Int)))) (Aa:List (List Int)) (Ab:Int):Option ((List (List Int))) :=
  bif (decide (Ab < 4)) then obind (d_spec_l1Has fu Ad Ab) fun Ae=>bif (!Ae) then d_spec_Groups_J1 fu Ac Ab Aa else d_spec_Groups_L1 fu Ac Af Aa Ab fu ((-1)) (w64 (((Aa.length:Int)) - 1)) else some (Aa)
def d_spec_Groups_L2 (fu:Nat)  (Ab:List Pair) (Aa:List Int):Nat → List (List Int) → Int → Option ((List (List Int)))
  | 0=>fun _ _=>none
  | n + 1=>d_spec_Groups_L2_B fu Ab Aa (d_spec_Groups_L2 fu Ab Aa n)

def d_spec_Groups (fu:Nat) (Ab:List Pair) (Aa:List Int):Option ((List (List Int))) :=
  d_spec_Groups_L2 fu Ab Aa fu (([]:List (List Int))) 0

def d_spec_GroupsOf (fu:Nat) (r1:Request):Option ((List (List Int))) :=
  obind (d_spec_Present fu r1) fun Aa=>obind (d_spec_Groups fu r1.fPairs Aa) fun Ab=>some (Ab)

def d_spec_l6Units_L1_B (fu:Nat) (k3:List Int → Int → Option ((List Int))) (r1:Request) (Aa:Int) (k4:List Int → Int → Option ((List Int))) (Ab:List Int) (Ac:Int):Option ((List Int)) :=
  obind (ix r1.fItems Aa) fun Ad=>bif (decide (Ac < Ad.fCount)) then obind (apnd 8 Ab (([Aa]:List Int))) fun Ae=>k4 Ae (w64 (Ac + 1)) else k3 Ab (w64 (Aa + 1))
def d_spec_l6Units_L1 (fu:Nat) (k3:List Int → Int → Option ((List Int))) (r1:Request) (Aa:Int):Nat → List Int → Int → Option ((List Int))
  | 0=>fun _ _=>none
  | n + 1=>d_spec_l6Units_L1_B fu k3 r1 Aa (d_spec_l6Units_L1 fu k3 r1 Aa n)

def d_spec_l6Units_L2_B (fu:Nat)  (r1:Request) (k3:List Int → Int → Option ((List Int))) (Aa:List Int) (Ab:Int):Option ((List Int)) :=
  bif (decide (Ab < ((r1.fItems.length:Int)))) then d_spec_l6Units_L1 fu k3 r1 Ab fu Aa 0 else some (Aa)
def d_spec_l6Units_L2 (fu:Nat)  (r1:Request):Nat → List Int → Int → Option ((List Int))
  | 0=>fun _ _=>none
  | n + 1=>d_spec_l6Units_L2_B fu r1 (d_spec_l6Units_L2 fu r1 n)

def d_spec_l6Units (fu:Nat) (r1:Request):Option ((List Int)) :=
  d_spec_l6Units_L2 fu r1 fu (([]:List Int)) 0

def d_spec_UnitsOf_J1 (fu:Nat) (k3:List Int → Int → Option ((List Int))) (Ab:Int) (Aa:List Int):Option ((List Int)) :=
  k3 Aa (w64 (Ab + 1))

def d_spec_UnitsOf_L1_B (fu:Nat)  (r1:Request) (Ah:Int) (Aj:(List (List Int))) (Ac:(List Int)) (k3:List Int → Int → Option ((List Int))) (Ab:List Int) (Aa:Int):Option ((List Int)) :=
  bif (decide (Aa < ((Ac.length:Int)))) then obind (ix Aj Ah) fun Ai=>obind (ix Ac Aa) fun Ae=>obind (ix r1.fItems Ae) fun Ad=>obind (d_spec_l1Has fu Ai Ad.fClass) fun Ag=>bif Ag then obind (apnd 8 Ab (([Aa]:List Int))) fun Af=>d_spec_UnitsOf_J1 fu k3 Aa Af else d_spec_UnitsOf_J1 fu k3 Aa Ab else some (Ab)
def d_spec_UnitsOf_L1 (fu:Nat)  (r1:Request) (Ab:Int) (Ac:(List (List Int))) (Aa:(List Int)):Nat → List Int → Int → Option ((List Int))
  | 0=>fun _ _=>none
  | n + 1=>d_spec_UnitsOf_L1_B fu r1 Ab Ac Aa (d_spec_UnitsOf_L1 fu r1 Ab Ac Aa n)

def d_spec_UnitsOf (fu:Nat) (r1:Request) (Aa:Int):Option ((List Int)) :=
  obind (d_spec_GroupsOf fu r1) fun Ab=>obind (d_spec_l1In fu Aa 0 (w64 (((Ab.length:Int)) - 1))) fun Ad=>bif (!Ad) then some (([]:List Int)) else obind (d_spec_l6Units fu r1) fun Ac=>d_spec_UnitsOf_L1 fu r1 Aa Ab Ac fu (([]:List Int)) 0

def d_spec_l7Known_J1 (fu:Nat) (k3:List Int → Int → Option ((List Int))) (Aa:Int) (Ab:List Int):Option ((List Int)) :=
  k3 Ab (w64 (Aa + 1))

def d_spec_l7Known_L1_B (fu:Nat)  (Ag:List Int) (Ac:List Int) (k3:List Int → Int → Option ((List Int))) (Ab:List Int) (Aa:Int):Option ((List Int)) :=
  bif (decide (Aa < ((Ac.length:Int)))) then obind (ix Ac Aa) fun Ad=>obind (d_spec_l1In fu Ad 0 (w64 (((Ag.length:Int)) - 1))) fun Af=>bif Af then obind (ix Ac Aa) fun Ah=>obind (apnd 8 Ab (([Ad]:List Int))) fun Ae=>d_spec_l7Known_J1 fu k3 Aa Ae else d_spec_l7Known_J1 fu k3 Aa Ab else some (Ab)
def d_spec_l7Known_L1 (fu:Nat)  (Ab:List Int) (Aa:List Int):Nat → List Int → Int → Option ((List Int))
  | 0=>fun _ _=>none
  | n + 1=>d_spec_l7Known_L1_B fu Ab Aa (d_spec_l7Known_L1 fu Ab Aa n)

def d_spec_l7Known (fu:Nat) (Ab:List Int) (Aa:List Int):Option ((List Int)) :=
  d_spec_l7Known_L1 fu Ab Aa fu (([]:List Int)) 0

def d_spec_l6Item (fu:Nat) (r1:Request) (Aa:List Int) (u9:Int):Option (Item × Bool) :=
  obind (d_spec_l1In fu u9 0 (w64 (((Aa.length:Int)) - 1))) fun Ab=>bif (!Ab) then some ((⟨0,0,0,0,0,0,0⟩:Item),false) else obind (ix Aa u9) fun Ac=>obind (ix r1.fItems Ac) fun Ad=>some (Ad,true)

def d_spec_Volume_J1 (fu:Nat) (Aa:Int) (h2:Int) (d3:Int)  : Option (Int) :=
  some (w64 ((w64 (Aa * h2)) * d3))

def d_spec_Volume (fu:Nat) (Aa:Int) (h2:Int) (d3:Int):Option (Int) :=
  obind (d_spec_l1In fu Aa 0 2000) fun Ac=>bif (!Ac) then some (0) else obind (d_spec_l1In fu h2 0 2000) fun Ab=>bif (!Ab) then some (0) else obind (d_spec_l1In fu d3 0 2000) fun Ad=>bif (!Ad) then some (0) else d_spec_Volume_J1 fu Aa h2 d3

def d_spec_l7Of_J1 (fu:Nat) (k7:L7 → Int → Option (L7)) (Ab:Int) (Aa:L7):Option (L7) :=
  k7 Aa (w64 (Ab + 1))

def d_spec_l7Of_J2 (fu:Nat) (k7:L7 → Int → Option (L7)) (Ab:L7) (Ad:Int) (Aa:Item):Option (L7) :=
  obind (d_spec_Volume fu Aa.fW Aa.fH Aa.fD) fun Ac=>d_spec_l7Of_J1 fu k7 Ad ((⟨w64 (Ab.fvol + Ac),w64 (Ab.fgram + Aa.fGram)⟩:L7))

def d_spec_l7Of_L1_B (fu:Nat)  (r1:Request) (Ad:List Int) (Ac:List Int) (k7:L7 → Int → Option (L7)) (Ab:L7) (Aa:Int):Option (L7) :=
  bif (decide (Aa < ((Ac.length:Int)))) then obind (ix Ac Aa) fun Ae=>obind (d_spec_l6Item fu r1 Ad Ae) fun Af=>d_spec_l7Of_J2 fu k7 Ab Aa Af.1 else some (Ab)
def d_spec_l7Of_L1 (fu:Nat)  (r1:Request) (Aa:List Int) (Ab:List Int):Nat → L7 → Int → Option (L7)
  | 0=>fun _ _=>none
  | n + 1=>d_spec_l7Of_L1_B fu r1 Aa Ab (d_spec_l7Of_L1 fu r1 Aa Ab n)

def d_spec_l7Of (fu:Nat) (r1:Request) (Aa:List Int) (Ab:List Int):Option (L7) :=
  d_spec_l7Of_L1 fu r1 Aa Ab fu ((⟨0,0⟩:L7)) 0

def d_spec_l7Room_J1 (fu:Nat) (m9:Typ) (Aa:L7):Option (Bool) :=
  obind (d_spec_Volume fu m9.fW m9.fH m9.fD) fun Ab=>bif (decide (Aa.fvol ≤ Ab)) then some (decide (Aa.fgram ≤ m9.fGram)) else some (false)

def d_spec_l7Room (fu:Nat) (r1:Request) (Aa:List Int) (m9:Typ) (Af:List Int) (Ac:Int):Option (Bool) :=
  obind (apnd 8 (([]:List Int)) Af) fun Ab=>obind (apnd 8 Ab (([Ac]:List Int))) fun Ae=>obind (d_spec_l7Of fu r1 Aa Ae) fun Ad=>d_spec_l7Room_J1 fu m9 Ad

def d_spec_l7Next_J1 (fu:Nat) (k3:List (List Int) → Int → Option ((List (List Int)))) (Ab:Int) (Aa:List (List Int)):Option ((List (List Int))) :=
  k3 Aa (w64 (Ab + 1))

def d_spec_l7Next_L1_B (fu:Nat)  (r1:Request) (Ac:List Int) (Aj:Typ × Bool) (Ah:(List Int)) (k3:List (List Int) → Int → Option ((List (List Int)))) (Aa:List (List Int)) (Ab:Int):Option ((List (List Int))) :=
  bif (decide (Ab < ((Ac.length:Int)))) then bif (decide (((Aa.length:Int)) > 0)) then obind (ix Aa (w64 (((Aa.length:Int)) - 1))) fun Ae=>obind (ix Ac Ab) fun Ad=>obind (d_spec_l7Room fu r1 Ah Aj.1 Ae Ad) fun Ai=>bif Ai then obind (ix Aa (w64 (((Aa.length:Int)) - 1))) fun Aq=>obind (ix Ac Ab) fun Ap=>obind (apnd 8 Ae (([Ad]:List Int))) fun Ag=>obind (ix Aa (w64 (((Aa.length:Int)) - 1))) fun Ao=>d_spec_l7Next_J1 fu k3 Ab (setx Aa (w64 (((Aa.length:Int)) - 1)) Ag) else obind (ix Ac Ab) fun Am=>obind (apnd 24 Aa [([Ad]:List Int)]) fun Af=>d_spec_l7Next_J1 fu k3 Ab Af else obind (ix Ac Ab) fun Al=>obind (apnd 24 Aa [([Al]:List Int)]) fun Ak=>d_spec_l7Next_J1 fu k3 Ab Ak else some (Aa)
def d_spec_l7Next_L1 (fu:Nat)  (r1:Request) (Aa:List Int) (Ab:Typ × Bool) (Ac:(List Int)):Nat → List (List Int) → Int → Option ((List (List Int)))
  | 0=>fun _ _=>none
  | n + 1=>d_spec_l7Next_L1_B fu r1 Aa Ab Ac (d_spec_l7Next_L1 fu r1 Aa Ab Ac n)

def d_spec_l7Next (fu:Nat) (r1:Request) (Aa:List Int):Option ((List (List Int))) :=
  obind (d_spec_MasterOf fu r1) fun Ab=>obind (d_spec_l6Units fu r1) fun Ac=>d_spec_l7Next_L1 fu r1 Aa Ab Ac fu (([]:List (List Int))) 0

def d_spec_NextFit (fu:Nat) (r1:Request) (Ad:List Int):Option ((List (List Int))) :=
  obind (d_spec_Class fu r1) fun Ab=>bif (Ab != 0) then some (([]:List (List Int))) else obind (d_spec_l6Units fu r1) fun Ac=>obind (d_spec_l7Known fu Ac Ad) fun Ae=>obind (d_spec_l7Next fu r1 Ae) fun Aa=>some (Aa)

def d_spec_SortDown (fu:Nat) (Aa:List Int):Option ((List Int)) :=
  obind (d_spec_l1Places fu ((Aa.length:Int))) fun x5=>obind (d_spec_l1Merge fu Aa x5 true) fun Ab=>some (Ab)

def d_spec_l7First_J1 (fu:Nat) (Ac:List (List Int) → Int → Option ((List (List Int)))) (Aa:Int) (Ab:List (List Int)):Option ((List (List Int))) :=
  Ac Ab (w64 (Aa + 1))

def d_spec_l7First_J2 (fu:Nat) (Aa:Int → Int → Option ((List (List Int)))) (Ab:Int) (Ac:Int):Option ((List (List Int))) :=
  Aa Ac (w64 (Ab - 1))

def d_spec_l7First_L1_B (fu:Nat) (Af:List (List Int) → Int → Option ((List (List Int)))) (r1:Request) (Ak:Typ × Bool) (Aj:(List Int)) (Aa:List (List Int)) (Ag:Int) (Ad:Int) (Ae:Int → Int → Option ((List (List Int)))) (Ab:Int) (Ac:Int):Option ((List (List Int))) :=
  bif (decide (Ac ≥ 0)) then obind (ix Aa Ac) fun Ao=>obind (d_spec_l7Room fu r1 Aj Ak.1 Ao Ad) fun Ah=>bif Ah then d_spec_l7First_J2 fu Ae Ac Ac else d_spec_l7First_J2 fu Ae Ac Ab else bif (decide (Ab < 0)) then obind (apnd 24 Aa [([Ad]:List Int)]) fun Am=>d_spec_l7First_J1 fu Af Ag Am else obind (ix Aa Ab) fun Ai=>obind (apnd 8 Ai (([Ad]:List Int))) fun Al=>obind (ix Aa Ab) fun Ap=>d_spec_l7First_J1 fu Af Ag (setx Aa Ab Al)
def d_spec_l7First_L1 (fu:Nat) (Ad:List (List Int) → Int → Option ((List (List Int)))) (r1:Request) (Ac:Typ × Bool) (Aa:(List Int)) (Ab:List (List Int)) (Ae:Int) (Af:Int):Nat → Int → Int → Option ((List (List Int)))
  | 0=>fun _ _=>none
  | n + 1=>d_spec_l7First_L1_B fu Ad r1 Ac Aa Ab Ae Af (d_spec_l7First_L1 fu Ad r1 Ac Aa Ab Ae Af n)

def d_spec_l7First_L2_B (fu:Nat)  (r1:Request) (Ai:List Int) (Af:Typ × Bool) (Ad:(List Int)) (Ac:(List Int)) (Ag:List (List Int) → Int → Option ((List (List Int)))) (Aa:List (List Int)) (Ab:Int):Option ((List (List Int))) :=
  bif (decide (Ab < ((Ac.length:Int)))) then obind (ix Ac Ab) fun Ae=>obind (ix Ai Ae) fun Ah=>d_spec_l7First_L1 fu Ag r1 Af Ad Aa Ab Ah fu ((-1)) (w64 (((Aa.length:Int)) - 1)) else some (Aa)
def d_spec_l7First_L2 (fu:Nat)  (r1:Request) (Ab:List Int) (Ac:Typ × Bool) (Ad:(List Int)) (Aa:(List Int)):Nat → List (List Int) → Int → Option ((List (List Int)))
  | 0=>fun _ _=>none
  | n + 1=>d_spec_l7First_L2_B fu r1 Ab Ac Ad Aa (d_spec_l7First_L2 fu r1 Ab Ac Ad Aa n)

def d_spec_l7First_L3_B (fu:Nat)  (r1:Request) (Ab:List Int) (Ah:Typ × Bool) (Ad:(List Int)) (k1:List Int → Int → Option ((List (List Int)))) (Ac:List Int) (Aa:Int):Option ((List (List Int))) :=
  bif (decide (Aa < ((Ab.length:Int)))) then obind (sls Ab Aa (w64 (Aa + 1))) fun Ae=>obind (d_spec_l7Of fu r1 Ad Ae) fun Ai=>obind (apnd 8 Ac (([Ai.fvol]:List Int))) fun Ag=>k1 Ag (w64 (Aa + 1)) else obind (d_spec_SortDown fu Ac) fun Af=>d_spec_l7First_L2 fu r1 Ab Ah Ad Af fu (([]:List (List Int))) 0
def d_spec_l7First_L3 (fu:Nat)  (r1:Request) (Aa:List Int) (Ab:Typ × Bool) (Ac:(List Int)):Nat → List Int → Int → Option ((List (List Int)))
  | 0=>fun _ _=>none
  | n + 1=>d_spec_l7First_L3_B fu r1 Aa Ab Ac (d_spec_l7First_L3 fu r1 Aa Ab Ac n)

def d_spec_l7First (fu:Nat) (r1:Request) (Aa:List Int):Option ((List (List Int))) :=
  obind (d_spec_MasterOf fu r1) fun Ab=>obind (d_spec_l6Units fu r1) fun Ac=>d_spec_l7First_L3 fu r1 Aa Ab Ac fu (([]:List Int)) 0

def d_spec_FirstFit (fu:Nat) (r1:Request) (Ad:List Int):Option ((List (List Int))) :=
  obind (d_spec_Class fu r1) fun Ab=>bif (Ab != 0) then some (([]:List (List Int))) else obind (d_spec_l6Units fu r1) fun Ac=>obind (d_spec_l7Known fu Ac Ad) fun Ae=>obind (d_spec_l7First fu r1 Ae) fun Aa=>some (Aa)

def d_spec_PackWay (fu:Nat) (r1:Request) (Aa:List Int):Option ((List (List Int))) :=
  bif (r1.fWay == 1) then obind (d_spec_NextFit fu r1 Aa) fun Ab=>some (Ab) else obind (d_spec_FirstFit fu r1 Aa) fun Ac=>some (Ac)

def d_spec_Holds_J1 (fu:Nat) (r1:Request) (Ac:List Int) (t9:Typ) (Ad:(List Int))  : Option (Bool) :=
  obind (d_spec_l7Of fu r1 Ad Ac) fun Aa=>obind (d_spec_Volume fu t9.fW t9.fH t9.fD) fun Ab=>bif (decide (Aa.fvol ≤ Ab)) then some (decide (Aa.fgram ≤ t9.fGram)) else some (false)

def d_spec_Holds_J2 (fu:Nat) (Ab:Int → Option (Bool)) (Aa:Int)  : Option (Bool) :=
  Ab (w64 (Aa + 1))

def d_spec_Holds_J3 (fu:Nat) (Ad:Int → Option (Bool)) (t9:Typ) (Ab:Int) (Ae:Item) (Aa:Bool):Option (Bool) :=
  bif (!Aa) then some (false) else obind (d_spec_Fits fu Ae t9) fun Ac=>bif (!Ac) then some (false) else d_spec_Holds_J2 fu Ad Ab

def d_spec_Holds_L1_B (fu:Nat)  (r1:Request) (Ab:List Int) (t9:Typ) (Ac:(List Int)) (Af:Int → Option (Bool)) (Aa:Int):Option (Bool) :=
  bif (decide (Aa < ((Ab.length:Int)))) then obind (ix Ab Aa) fun Ae=>obind (d_spec_l6Item fu r1 Ac Ae) fun Ad=>d_spec_Holds_J3 fu Af t9 Aa Ad.1 Ad.2 else d_spec_Holds_J1 fu r1 Ab t9 Ac
def d_spec_Holds_L1 (fu:Nat)  (r1:Request) (Aa:List Int) (t9:Typ) (Ab:(List Int)):Nat → Int → Option (Bool)
  | 0=>fun _=>none
  | n + 1=>d_spec_Holds_L1_B fu r1 Aa t9 Ab (d_spec_Holds_L1 fu r1 Aa t9 Ab n)

def d_spec_Holds (fu:Nat) (r1:Request) (Ab:List Int) (t9:Typ):Option (Bool) :=
  obind (d_spec_Class fu r1) fun Aa=>bif (Aa != 0) then some (false) else obind (d_spec_l6Units fu r1) fun Ac=>d_spec_Holds_L1 fu r1 Ab t9 Ac fu 0

def d_spec_Cheapest_J1 (fu:Nat) (k3:Typ → Bool → Int → Option (Typ × Bool)) (Ab:Int) (Ac:Typ) (Aa:Bool):Option (Typ × Bool) :=
  k3 Ac Aa (w64 (Ab + 1))

def d_spec_Cheapest_L1_B (fu:Nat)  (r1:Request) (Af:List Int) (k3:Typ → Bool → Int → Option (Typ × Bool)) (Ac:Typ) (Ad:Bool) (Aa:Int):Option (Typ × Bool) :=
  bif (decide (Aa < ((r1.fTypes.length:Int)))) then obind (ix r1.fTypes Aa) fun Ab=>obind (d_spec_Holds fu r1 Af Ab) fun Ae=>bif (!Ae) then d_spec_Cheapest_J1 fu k3 Aa Ac Ad else bif (!Ad) then d_spec_Cheapest_J1 fu k3 Aa Ab true else bif (decide (Ab.fCost < Ac.fCost)) then d_spec_Cheapest_J1 fu k3 Aa Ab true else bif (Ab.fCost == Ac.fCost) then bif (decide (Ab.fId < Ac.fId)) then d_spec_Cheapest_J1 fu k3 Aa Ab true else d_spec_Cheapest_J1 fu k3 Aa Ac Ad else d_spec_Cheapest_J1 fu k3 Aa Ac Ad else some (Ac,Ad)
def d_spec_Cheapest_L1 (fu:Nat)  (r1:Request) (Aa:List Int):Nat → Typ → Bool → Int → Option (Typ × Bool)
  | 0=>fun _ _ _=>none
  | n + 1=>d_spec_Cheapest_L1_B fu r1 Aa (d_spec_Cheapest_L1 fu r1 Aa n)

def d_spec_Cheapest (fu:Nat) (r1:Request) (Aa:List Int):Option (Typ × Bool) :=
  d_spec_Cheapest_L1 fu r1 Aa fu ((⟨0,0,0,0,0,0,0⟩:Typ)) false 0

def d_spec_CartonsOf_J1 (fu:Nat) (Aa:List Carton → Int → Option ((List Carton))) (Ac:Int) (Ab:List Carton):Option ((List Carton)) :=
  Aa Ab (w64 (Ac + 1))

def d_spec_CartonsOf_J2 (fu:Nat) (Aa:List Carton → Int → Option ((List Carton))) (Ab:Int) (Ac:List Carton):Option ((List Carton)) :=
  Aa Ac (w64 (Ab + 1))

def d_spec_CartonsOf_L1_B (fu:Nat) (Ag:List Carton → Int → Option ((List Carton))) (Ak:Int) (Am:(List (List Int))) (Ae:List Carton) (Ac:Int) (Ao:Typ) (Ad:(List Int)) (Ai:List Int → Int → Option ((List Carton))) (Ab:List Int) (Aa:Int):Option ((List Carton)) :=
  bif (decide (Aa < ((Ad.length:Int)))) then obind (ix Am Ac) fun Ap=>obind (ix Ad Aa) fun Aj=>obind (ix Ap Aj) fun Af=>obind (apnd 8 Ab (([Af]:List Int))) fun Ah=>Ai Ah (w64 (Aa + 1)) else obind (apnd 40 Ae [(⟨Ao.fId,Ak,Ab⟩:Carton)]) fun Al=>d_spec_CartonsOf_J2 fu Ag Ac Al
def d_spec_CartonsOf_L1 (fu:Nat) (Ab:List Carton → Int → Option ((List Carton))) (Af:Int) (Ae:(List (List Int))) (Aa:List Carton) (Ac:Int) (Ad:Typ) (Ag:(List Int)):Nat → List Int → Int → Option ((List Carton))
  | 0=>fun _ _=>none
  | n + 1=>d_spec_CartonsOf_L1_B fu Ab Af Ae Aa Ac Ad Ag (d_spec_CartonsOf_L1 fu Ab Af Ae Aa Ac Ad Ag n)

def d_spec_CartonsOf_J3 (fu:Nat) (Ad:List Carton → Int → Option ((List Carton))) (Ag:Int) (Ab:(List (List Int))) (Ac:List Carton) (Aa:Int) (Af:Typ):Option ((List Carton)) :=
  obind (ix Ab Aa) fun Ae=>obind (d_spec_SortUp fu Ae) fun Ah=>d_spec_CartonsOf_L1 fu Ad Ag Ab Ac Aa Af Ah fu (([]:List Int)) 0

def d_spec_CartonsOf_L2_B (fu:Nat) (Ah:List Carton → Int → Option ((List Carton))) (r1:Request) (Ad:Int) (Ab:(List (List Int))) (Ae:List Carton → Int → Option ((List Carton))) (Ac:List Carton) (Aa:Int):Option ((List Carton)) :=
  bif (decide (Aa < ((Ab.length:Int)))) then obind (ix Ab Aa) fun Af=>obind (d_spec_Cheapest fu r1 Af) fun Ag=>d_spec_CartonsOf_J3 fu Ae Ad Ab Ac Aa Ag.1 else d_spec_CartonsOf_J1 fu Ah Ad Ac
def d_spec_CartonsOf_L2 (fu:Nat) (Aa:List Carton → Int → Option ((List Carton))) (r1:Request) (Ac:Int) (Ab:(List (List Int))):Nat → List Carton → Int → Option ((List Carton))
  | 0=>fun _ _=>none
  | n + 1=>d_spec_CartonsOf_L2_B fu Aa r1 Ac Ab (d_spec_CartonsOf_L2 fu Aa r1 Ac Ab n)

def d_spec_CartonsOf_L3_B (fu:Nat)  (r1:Request) (Ac:(List (List Int))) (Ae:List Carton → Int → Option ((List Carton))) (Ab:List Carton) (Aa:Int):Option ((List Carton)) :=
  bif (decide (Aa < ((Ac.length:Int)))) then obind (d_spec_UnitsOf fu r1 Aa) fun Af=>obind (d_spec_PackWay fu r1 Af) fun Ad=>d_spec_CartonsOf_L2 fu Ae r1 Aa Ad fu Ab 0 else some (Ab)
def d_spec_CartonsOf_L3 (fu:Nat)  (r1:Request) (Aa:(List (List Int))):Nat → List Carton → Int → Option ((List Carton))
  | 0=>fun _ _=>none
  | n + 1=>d_spec_CartonsOf_L3_B fu r1 Aa (d_spec_CartonsOf_L3 fu r1 Aa n)

def d_spec_CartonsOf (fu:Nat) (r1:Request):Option ((List Carton)) :=
  obind (d_spec_GroupsOf fu r1) fun Aa=>d_spec_CartonsOf_L3 fu r1 Aa fu (([]:List Carton)) 0

def d_impl_TypeById_1 (fu:Nat) (t1:Typ) (x2:Int):Option (Bool) :=
  some (t1.fId == x2)

def d_slices_IndexFunc_impl_Type_impl_Type_L1_B (fu:Nat)  (Ab:List Typ) (f5:Typ → Option Bool) (k1:Int → Option (Int)) (Aa:Int):Option (Int) :=
  bif (decide (Aa < ((Ab.length:Int)))) then obind (ix Ab Aa) fun Ad=>obind (f5 Ad) fun Ac=>bif Ac then some (Aa) else k1 (w64 (Aa + 1)) else some ((-1))
def d_slices_IndexFunc_impl_Type_impl_Type_L1 (fu:Nat)  (Aa:List Typ) (f5:Typ → Option Bool):Nat → Int → Option (Int)
  | 0=>fun _=>none
  | n + 1=>d_slices_IndexFunc_impl_Type_impl_Type_L1_B fu Aa f5 (d_slices_IndexFunc_impl_Type_impl_Type_L1 fu Aa f5 n)

def d_slices_IndexFunc_impl_Type_impl_Type (fu:Nat) (Aa:List Typ) (f5:Typ → Option Bool):Option (Int) :=
  d_slices_IndexFunc_impl_Type_impl_Type_L1 fu Aa f5 fu 0

def d_impl_TypeById (fu:Nat) (r1:Request) (Ac:Int):Option (Typ × Bool) :=
  obind (d_slices_IndexFunc_impl_Type_impl_Type fu r1.fTypes (fun Ad=>d_impl_TypeById_1 fu Ad Ac)) fun Aa=>bif (decide (Aa < 0)) then some ((⟨0,0,0,0,0,0,0⟩:Typ),false) else obind (ix r1.fTypes Aa) fun Ab=>some (Ab,true)

def d_impl_MasterOf (fu:Nat) (r1:Request):Option (Typ × Bool) :=
  obind (d_impl_TypeById fu r1 r1.fMaster) fun Aa=>some (Aa.1,Aa.2)

def d_impl_in (fu:Nat) (n1:Int) (Aa:Int) (Ab:Int):Option (Bool) :=
  bif (decide (n1 ≥ Aa)) then some (decide (n1 ≤ Ab)) else some (false)

def d_impl_isSide (fu:Nat) (n1:Int):Option (Bool) :=
  obind (d_impl_in fu n1 1 2000) fun x2=>some (x2)

def d_impl_PalletOk (fu:Nat) (x1:Pallet):Option (Bool) :=
  obind (d_impl_isSide fu x1.fW) fun x5=>bif x5 then obind (d_impl_isSide fu x1.fD) fun Aa=>bif Aa then obind (d_impl_isSide fu x1.fH) fun Ac=>bif Ac then obind (d_impl_in fu x1.fGram 1 100000) fun Ab=>some (Ab) else some (false) else some (false) else some (false)

def d_slices_IndexFunc_impl_Pair_impl_Pair_L1_B (fu:Nat)  (Ab:List Pair) (f5:Pair → Option Bool) (k1:Int → Option (Int)) (Aa:Int):Option (Int) :=
  bif (decide (Aa < ((Ab.length:Int)))) then obind (ix Ab Aa) fun Ad=>obind (f5 Ad) fun Ac=>bif Ac then some (Aa) else k1 (w64 (Aa + 1)) else some ((-1))
def d_slices_IndexFunc_impl_Pair_impl_Pair_L1 (fu:Nat)  (Aa:List Pair) (f5:Pair → Option Bool):Nat → Int → Option (Int)
  | 0=>fun _=>none
  | n + 1=>d_slices_IndexFunc_impl_Pair_impl_Pair_L1_B fu Aa f5 (d_slices_IndexFunc_impl_Pair_impl_Pair_L1 fu Aa f5 n)

def d_slices_IndexFunc_impl_Pair_impl_Pair (fu:Nat) (Aa:List Pair) (f5:Pair → Option Bool):Option (Int) :=
  d_slices_IndexFunc_impl_Pair_impl_Pair_L1 fu Aa f5 fu 0

def d_slices_ContainsFunc_impl_Pair_impl_Pair (fu:Nat) (Ab:List Pair) (f5:Pair → Option Bool):Option (Bool) :=
  obind (d_slices_IndexFunc_impl_Pair_impl_Pair fu Ab f5) fun Aa=>some (decide (Aa ≥ 0))

def d_impl_BoundsOk_1 (fu:Nat) (p1:Pair):Option (Bool) :=
  obind (d_impl_in fu p1.fA 0 3) fun x5=>bif (!x5) then some (true) else obind (d_impl_in fu p1.fB 0 3) fun Aa=>some (!Aa)

def d_slices_ContainsFunc_impl_Type_impl_Type (fu:Nat) (Ab:List Typ) (f5:Typ → Option Bool):Option (Bool) :=
  obind (d_slices_IndexFunc_impl_Type_impl_Type fu Ab f5) fun Aa=>some (decide (Aa ≥ 0))

def d_impl_TypeOk (fu:Nat) (x1:Typ):Option (Bool) :=
  obind (d_impl_in fu x1.fId 0 999) fun x5=>bif x5 then obind (d_impl_isSide fu x1.fW) fun Af=>bif Af then obind (d_impl_isSide fu x1.fH) fun Ad=>bif Ad then obind (d_impl_isSide fu x1.fD) fun Ac=>bif Ac then obind (d_impl_in fu x1.fTare 0 100000) fun Ae=>bif Ae then obind (d_impl_in fu x1.fGram 1 100000) fun Ab=>bif Ab then obind (d_impl_in fu x1.fCost 0 100000) fun Aa=>some (Aa) else some (false) else some (false) else some (false) else some (false) else some (false) else some (false)

def d_impl_BoundsOk_2 (fu:Nat) (t1:Typ):Option (Bool) :=
  obind (d_impl_TypeOk fu t1) fun x5=>some (!x5)

def d_impl_ItemOk (fu:Nat) (x1:Item):Option (Bool) :=
  obind (d_impl_in fu x1.fId 0 999) fun x5=>bif x5 then obind (d_impl_isSide fu x1.fW) fun Af=>bif Af then obind (d_impl_isSide fu x1.fH) fun Ad=>bif Ad then obind (d_impl_isSide fu x1.fD) fun Ac=>bif Ac then obind (d_impl_in fu x1.fGram 1 100000) fun Ae=>bif Ae then obind (d_impl_in fu x1.fClass 0 3) fun Ab=>bif Ab then obind (d_impl_in fu x1.fCount 1 6) fun Aa=>some (Aa) else some (false) else some (false) else some (false) else some (false) else some (false) else some (false)

def d_impl_BoundsOk_L1_B (fu:Nat)  (r1:Request) (k3:Int → Int → Option (Bool)) (Ac:Int) (Aa:Int):Option (Bool) :=
  bif (decide (Aa < ((r1.fItems.length:Int)))) then obind (ix r1.fItems Aa) fun Ab=>obind (d_impl_ItemOk fu Ab) fun Ad=>bif (!Ad) then some (false) else k3 (w64 (Ac + Ab.fCount)) (w64 (Aa + 1)) else some (decide (Ac ≤ 12))
def d_impl_BoundsOk_L1 (fu:Nat)  (r1:Request):Nat → Int → Int → Option (Bool)
  | 0=>fun _ _=>none
  | n + 1=>d_impl_BoundsOk_L1_B fu r1 (d_impl_BoundsOk_L1 fu r1 n)

def d_impl_BoundsOk_J1 (fu:Nat) (r1:Request)  : Option (Bool) :=
  d_impl_BoundsOk_L1 fu r1 fu 0 0

def d_impl_BoundsOk_J2 (fu:Nat) (r1:Request)  : Option (Bool) :=
  obind (d_slices_ContainsFunc_impl_Pair_impl_Pair fu r1.fPairs (fun Ae=>d_impl_BoundsOk_1 fu Ae)) fun Ab=>bif Ab then some (false) else obind (d_impl_in fu ((r1.fTypes.length:Int)) 1 5) fun Ad=>bif (!Ad) then some (false) else obind (d_slices_ContainsFunc_impl_Type_impl_Type fu r1.fTypes (fun Af=>d_impl_BoundsOk_2 fu Af)) fun Aa=>bif Aa then some (false) else obind (d_impl_in fu r1.fMaster 0 999) fun Ac=>bif (!Ac) then some (false) else bif (decide (((r1.fItems.length:Int)) > 8)) then some (false) else d_impl_BoundsOk_J1 fu r1

def d_impl_BoundsOk (fu:Nat) (r1:Request):Option (Bool) :=
  obind (d_impl_in fu r1.fWay 0 1) fun Aa=>bif (!Aa) then some (false) else obind (d_impl_PalletOk fu r1.fPallet) fun Ab=>bif (!Ab) then some (false) else obind (d_impl_in fu r1.fClasses 1 4) fun Ac=>bif (!Ac) then some (false) else bif (decide (((r1.fPairs.length:Int)) > 16)) then some (false) else d_impl_BoundsOk_J2 fu r1

def d_impl_namesOk_1 (fu:Nat) (q1:Typ) (x2:Typ):Option (Bool) :=
  some (q1.fId == x2.fId)

def d_impl_namesOk_2 (fu:Nat) (q1:Item) (x2:Item):Option (Bool) :=
  some (q1.fId == x2.fId)

def d_slices_IndexFunc_impl_Item_impl_Item_L1_B (fu:Nat)  (Ab:List Item) (f5:Item → Option Bool) (k1:Int → Option (Int)) (Aa:Int):Option (Int) :=
  bif (decide (Aa < ((Ab.length:Int)))) then obind (ix Ab Aa) fun Ad=>obind (f5 Ad) fun Ac=>bif Ac then some (Aa) else k1 (w64 (Aa + 1)) else some ((-1))
def d_slices_IndexFunc_impl_Item_impl_Item_L1 (fu:Nat)  (Aa:List Item) (f5:Item → Option Bool):Nat → Int → Option (Int)
  | 0=>fun _=>none
  | n + 1=>d_slices_IndexFunc_impl_Item_impl_Item_L1_B fu Aa f5 (d_slices_IndexFunc_impl_Item_impl_Item_L1 fu Aa f5 n)

def d_slices_IndexFunc_impl_Item_impl_Item (fu:Nat) (Aa:List Item) (f5:Item → Option Bool):Option (Int) :=
  d_slices_IndexFunc_impl_Item_impl_Item_L1 fu Aa f5 fu 0

def d_slices_ContainsFunc_impl_Item_impl_Item (fu:Nat) (Ab:List Item) (f5:Item → Option Bool):Option (Bool) :=
  obind (d_slices_IndexFunc_impl_Item_impl_Item fu Ab f5) fun Aa=>some (decide (Aa ≥ 0))

def d_impl_namesOk_3 (fu:Nat) (p1:Pair) (x2:Request):Option (Bool) :=
  bif (decide (p1.fA ≥ x2.fClasses)) then some (true) else some (decide (p1.fB ≥ x2.fClasses))

def d_impl_namesOk_J1 (fu:Nat) (k4:Int → Option (Bool)) (Aa:Int)  : Option (Bool) :=
  k4 (w64 (Aa + 1))

def d_impl_namesOk_L1_B (fu:Nat)  (r1:Request) (k4:Int → Option (Bool)) (Aa:Int):Option (Bool) :=
  bif (decide (Aa < ((r1.fItems.length:Int)))) then obind (ix r1.fItems Aa) fun Ab=>bif (decide (Ab.fClass ≥ r1.fClasses)) then some (false) else obind (sls r1.fItems 0 Aa) fun Ag=>obind (d_slices_ContainsFunc_impl_Item_impl_Item fu Ag (fun Ae=>d_impl_namesOk_2 fu Ae Ab)) fun Ac=>bif Ac then some (false) else d_impl_namesOk_J1 fu k4 Aa else obind (d_impl_MasterOf fu r1) fun Ah=>bif Ah.2 then obind (d_slices_ContainsFunc_impl_Pair_impl_Pair fu r1.fPairs (fun Ad=>d_impl_namesOk_3 fu Ad r1)) fun Af=>some (!Af) else some (false)
def d_impl_namesOk_L1 (fu:Nat)  (r1:Request):Nat → Int → Option (Bool)
  | 0=>fun _=>none
  | n + 1=>d_impl_namesOk_L1_B fu r1 (d_impl_namesOk_L1 fu r1 n)

def d_impl_namesOk_L2_B (fu:Nat)  (r1:Request) (k1:Int → Option (Bool)) (Aa:Int):Option (Bool) :=
  bif (decide (Aa < ((r1.fTypes.length:Int)))) then obind (ix r1.fTypes Aa) fun Ad=>obind (sls r1.fTypes 0 Aa) fun Ab=>obind (d_slices_ContainsFunc_impl_Type_impl_Type fu Ab (fun Ac=>d_impl_namesOk_1 fu Ac Ad)) fun Ae=>bif Ae then some (false) else k1 (w64 (Aa + 1)) else d_impl_namesOk_L1 fu r1 fu 0
def d_impl_namesOk_L2 (fu:Nat)  (r1:Request):Nat → Int → Option (Bool)
  | 0=>fun _=>none
  | n + 1=>d_impl_namesOk_L2_B fu r1 (d_impl_namesOk_L2 fu r1 n)

def d_impl_namesOk (fu:Nat) (r1:Request):Option (Bool) :=
  d_impl_namesOk_L2 fu r1 fu 0

def d_slices_Index_impl_Pair_impl_Pair_L1_B (fu:Nat)  (Ab:List Pair) (v5:Pair) (k1:Int → Option (Int)) (Aa:Int):Option (Int) :=
  bif (decide (Aa < ((Ab.length:Int)))) then obind (ix Ab Aa) fun Ac=>bif (decide (v5 = Ac)) then some (Aa) else k1 (w64 (Aa + 1)) else some ((-1))
def d_slices_Index_impl_Pair_impl_Pair_L1 (fu:Nat)  (Aa:List Pair) (v5:Pair):Nat → Int → Option (Int)
  | 0=>fun _=>none
  | n + 1=>d_slices_Index_impl_Pair_impl_Pair_L1_B fu Aa v5 (d_slices_Index_impl_Pair_impl_Pair_L1 fu Aa v5 n)

def d_slices_Index_impl_Pair_impl_Pair (fu:Nat) (Aa:List Pair) (v5:Pair):Option (Int) :=
  d_slices_Index_impl_Pair_impl_Pair_L1 fu Aa v5 fu 0

def d_slices_Contains_impl_Pair_impl_Pair (fu:Nat) (Aa:List Pair) (v5:Pair):Option (Bool) :=
  obind (d_slices_Index_impl_Pair_impl_Pair fu Aa v5) fun Ab=>some (decide (Ab ≥ 0))

def d_impl_Beside (fu:Nat) (Aa:List Pair) (a5:Int) (b6:Int):Option (Bool) :=
  obind (d_slices_Contains_impl_Pair_impl_Pair fu Aa ((⟨a5,b6⟩:Pair))) fun x7=>some (x7)

def d_impl_TableOk_L1_B (fu:Nat) (k3:Int → Option (Bool)) (Ac:List Pair) (Ae:Int) (Ab:Int) (k4:Int → Option (Bool)) (Aa:Int):Option (Bool) :=
  bif (decide (Aa < Ae)) then obind (d_impl_Beside fu Ac Ab Aa) fun Af=>obind (d_impl_Beside fu Ac Aa Ab) fun Ad=>bif (!(Af == Ad)) then some (false) else k4 (w64 (Aa + 1)) else k3 (w64 (Ab + 1))
def d_impl_TableOk_L1 (fu:Nat) (k3:Int → Option (Bool)) (Ab:List Pair) (Ac:Int) (Aa:Int):Nat → Int → Option (Bool)
  | 0=>fun _=>none
  | n + 1=>d_impl_TableOk_L1_B fu k3 Ab Ac Aa (d_impl_TableOk_L1 fu k3 Ab Ac Aa n)

def d_impl_TableOk_L2_B (fu:Nat)  (Ac:List Pair) (Ab:Int) (k3:Int → Option (Bool)) (Aa:Int):Option (Bool) :=
  bif (decide (Aa < Ab)) then obind (d_impl_Beside fu Ac Aa Aa) fun Ad=>bif (!Ad) then some (false) else d_impl_TableOk_L1 fu k3 Ac Ab Aa fu 0 else some (true)
def d_impl_TableOk_L2 (fu:Nat)  (Aa:List Pair) (Ab:Int):Nat → Int → Option (Bool)
  | 0=>fun _=>none
  | n + 1=>d_impl_TableOk_L2_B fu Aa Ab (d_impl_TableOk_L2 fu Aa Ab n)

def d_impl_TableOk (fu:Nat) (Ab:List Pair) (Aa:Int):Option (Bool) :=
  obind (d_impl_in fu Aa 1 4) fun x6=>bif (!x6) then some (false) else d_impl_TableOk_L2 fu Ab Aa fu 0

def d_slices_Sort_int_int (fu:Nat) (x1:List Int):Option (List Int):=sortI x1

def d_impl_Fits_J1 (fu:Nat) (x1:Item) (t2:Typ) (Ad:List Int) (Aj:List Int):Option (Bool) :=
  obind (d_slices_Sort_int_int fu Ad) fun Aa=>obind (d_slices_Sort_int_int fu Aj) fun Ab=>obind (ix Aa 0) fun Ai=>obind (ix Ab 0) fun Ae=>bif (decide (Ai ≤ Ae)) then obind (ix Aa 1) fun Ac=>obind (ix Ab 1) fun Ag=>bif (decide (Ac ≤ Ag)) then obind (ix Aa 2) fun Af=>obind (ix Ab 2) fun Ah=>bif (decide (Af ≤ Ah)) then some (decide (x1.fGram ≤ t2.fGram)) else some (false) else some (false) else some (false)

def d_impl_Fits (fu:Nat) (x1:Item) (t2:Typ):Option (Bool) :=
  d_impl_Fits_J1 fu x1 t2 (([x1.fW,x1.fH,x1.fD]:List Int)) (([t2.fW,t2.fH,t2.fD]:List Int))

def d_impl_Class_1 (fu:Nat) (x1:Item) (x2:Typ):Option (Bool) :=
  obind (d_impl_Fits fu x1 x2) fun x8=>some (!x8)

def d_impl_Class_2 (fu:Nat) (t1:Typ) (x2:Pallet):Option (Bool) :=
  bif (decide (t1.fW > x2.fW)) then some (true) else bif (decide (t1.fD > x2.fD)) then some (true) else bif (decide (t1.fH > x2.fH)) then some (true) else some (decide ((w64 (t1.fTare + t1.fGram)) > x2.fGram))

def d_impl_Class (fu:Nat) (r1:Request):Option (Int) :=
  obind (d_impl_MasterOf fu r1) fun Ah=>obind (d_impl_BoundsOk fu r1) fun Ad=>bif (!Ad) then some (2) else obind (d_impl_namesOk fu r1) fun Aa=>bif (!Aa) then some (3) else obind (d_impl_TableOk fu r1.fPairs r1.fClasses) fun Ag=>bif (!Ag) then some (4) else obind (d_slices_ContainsFunc_impl_Item_impl_Item fu r1.fItems (fun Ab=>d_impl_Class_1 fu Ab Ah.1)) fun Ae=>bif Ae then some (5) else obind (d_slices_ContainsFunc_impl_Type_impl_Type fu r1.fTypes (fun Ac=>d_impl_Class_2 fu Ac r1.fPallet)) fun Af=>bif Af then some (6) else some (0)

def d_impl_sound (fu:Nat) (r1:Request):Option (Bool) :=
  obind (d_impl_Class fu r1) fun Aa=>some (Aa == 0)

def d_slices_Clone_int_int (fu:Nat) (Aa:List Int):Option ((List Int)) :=
  obind (apnd 8 (([]:List Int)) Aa) fun Ab=>some (Ab)

def d_slices_Compact_int_int (fu:Nat) (x1:List Int):Option (List Int):=cmpI x1

def d_impl_kinds (fu:Nat) (Aa:List Int):Option ((List Int)) :=
  obind (d_slices_Clone_int_int fu Aa) fun x5=>obind (d_slices_Sort_int_int fu x5) fun Ab=>obind (d_slices_Compact_int_int fu Ab) fun Ac=>some (Ac)

def d_impl_Present_L1_B (fu:Nat)  (r1:Request) (k1:List Int → Int → Option ((List Int))) (Ab:List Int) (Aa:Int):Option ((List Int)) :=
  bif (decide (Aa < ((r1.fItems.length:Int)))) then obind (ix r1.fItems Aa) fun Ad=>obind (apnd 8 Ab (([Ad.fClass]:List Int))) fun Ae=>k1 Ae (w64 (Aa + 1)) else obind (d_impl_kinds fu Ab) fun Ac=>some (Ac)
def d_impl_Present_L1 (fu:Nat)  (r1:Request):Nat → List Int → Int → Option ((List Int))
  | 0=>fun _ _=>none
  | n + 1=>d_impl_Present_L1_B fu r1 (d_impl_Present_L1 fu r1 n)

def d_impl_Present (fu:Nat) (r1:Request):Option ((List Int)) :=
  obind (d_impl_sound fu r1) fun Aa=>bif (!Aa) then some (([]:List Int)) else d_impl_Present_L1 fu r1 fu (([]:List Int)) 0

def d_impl_mutual (fu:Nat) (Aa:List Pair) (a5:Int) (b6:Int):Option (Bool) :=
  obind (d_impl_Beside fu Aa a5 b6) fun x7=>bif x7 then obind (d_impl_Beside fu Aa b6 a5) fun Ab=>some (Ab) else some (false)

def d_impl_Groups_1_1 (fu:Nat) (x1:Int) (x2:List Pair) (x8:Int):Option (Bool) :=
  obind (d_impl_mutual fu x2 x8 x1) fun Aa=>some (!Aa)

def d_slices_IndexFunc_int_int_L1_B (fu:Nat)  (Ab:List Int) (f5:Int → Option Bool) (k1:Int → Option (Int)) (Aa:Int):Option (Int) :=
  bif (decide (Aa < ((Ab.length:Int)))) then obind (ix Ab Aa) fun Ad=>obind (f5 Ad) fun Ac=>bif Ac then some (Aa) else k1 (w64 (Aa + 1)) else some ((-1))
def d_slices_IndexFunc_int_int_L1 (fu:Nat)  (Aa:List Int) (f5:Int → Option Bool):Nat → Int → Option (Int)
  | 0=>fun _=>none
  | n + 1=>d_slices_IndexFunc_int_int_L1_B fu Aa f5 (d_slices_IndexFunc_int_int_L1 fu Aa f5 n)

def d_slices_IndexFunc_int_int (fu:Nat) (Aa:List Int) (f5:Int → Option Bool):Option (Int) :=
  d_slices_IndexFunc_int_int_L1 fu Aa f5 fu 0

def d_slices_ContainsFunc_int_int (fu:Nat) (Ab:List Int) (f5:Int → Option Bool):Option (Bool) :=
  obind (d_slices_IndexFunc_int_int fu Ab f5) fun Aa=>some (decide (Aa ≥ 0))

def d_impl_Groups_1 (fu:Nat) (l1:List Int) (x5:List Pair) (Aa:Int):Option (Bool) :=
  obind (d_slices_ContainsFunc_int_int fu l1 (fun Ab=>d_impl_Groups_1_1 fu Ab x5 Aa)) fun Ac=>some (!Ac)

def d_slices_IndexFunc_ints_int_L1_B (fu:Nat)  (Ab:List (List Int)) (f5:(List Int) → Option Bool) (k1:Int → Option (Int)) (Aa:Int):Option (Int) :=
  bif (decide (Aa < ((Ab.length:Int)))) then obind (ix Ab Aa) fun Ac=>obind (f5 Ac) fun Ad=>bif Ad then some (Aa) else k1 (w64 (Aa + 1)) else some ((-1))
def d_slices_IndexFunc_ints_int_L1 (fu:Nat)  (Aa:List (List Int)) (f5:(List Int) → Option Bool):Nat → Int → Option (Int)
  | 0=>fun _=>none
  | n + 1=>d_slices_IndexFunc_ints_int_L1_B fu Aa f5 (d_slices_IndexFunc_ints_int_L1 fu Aa f5 n)

def d_slices_IndexFunc_ints_int (fu:Nat) (Aa:List (List Int)) (f5:(List Int) → Option Bool):Option (Int) :=
  d_slices_IndexFunc_ints_int_L1 fu Aa f5 fu 0

def d_impl_Groups_J1 (fu:Nat) (k3:List (List Int) → Int → Option ((List (List Int)))) (Aa:Int) (Ab:List (List Int)):Option ((List (List Int))) :=
  k3 Ab (w64 (Aa + 1))

def d_impl_Groups_L1_B (fu:Nat)  (Aj:List Pair) (Ae:(List Int)) (k3:List (List Int) → Int → Option ((List (List Int)))) (Aa:List (List Int)) (Ab:Int):Option ((List (List Int))) :=
  bif (decide (Ab < ((Ae.length:Int)))) then obind (ix Ae Ab) fun Ad=>obind (d_impl_in fu Ad 0 3) fun Af=>bif (!Af) then d_impl_Groups_J1 fu k3 Ab Aa else obind (d_slices_IndexFunc_ints_int fu Aa (fun Ai=>d_impl_Groups_1 fu Ai Aj Ad)) fun Ac=>bif (decide (Ac < 0)) then obind (apnd 24 Aa [([Ad]:List Int)]) fun Ag=>d_impl_Groups_J1 fu k3 Ab Ag else obind (ix Aa Ac) fun Ah=>obind (apnd 8 Ah (([Ad]:List Int))) fun Ak=>obind (ix Aa Ac) fun Al=>d_impl_Groups_J1 fu k3 Ab (setx Aa Ac Ak) else some (Aa)
def d_impl_Groups_L1 (fu:Nat)  (Ab:List Pair) (Aa:(List Int)):Nat → List (List Int) → Int → Option ((List (List Int)))
  | 0=>fun _ _=>none
  | n + 1=>d_impl_Groups_L1_B fu Ab Aa (d_impl_Groups_L1 fu Ab Aa n)

def d_impl_Groups (fu:Nat) (Ac:List Pair) (Aa:List Int):Option ((List (List Int))) :=
  obind (d_impl_kinds fu Aa) fun Ab=>d_impl_Groups_L1 fu Ac Ab fu (([]:List (List Int))) 0

def d_impl_GroupsOf (fu:Nat) (r1:Request):Option ((List (List Int))) :=
  obind (d_impl_sound fu r1) fun Ac=>bif (!Ac) then some (([]:List (List Int))) else obind (d_impl_Present fu r1) fun Aa=>obind (d_impl_Groups fu r1.fPairs Aa) fun Ab=>some (Ab)

def d_bits_Mul64 (fu:Nat) (x1:Int) (y2:Int):Option (Int × Int) :=
  some (IntKind.wrap .u64 ((IntKind.wrap .u64 ((IntKind.wrap .u64 ((Int.fdiv x1 (2 ^ (min 32 (IntKind.bits .u64)))) * (Int.fdiv y2 (2 ^ (min 32 (IntKind.bits .u64)))))) + (Int.fdiv (IntKind.wrap .u64 ((IntKind.wrap .u64 ((Int.fdiv x1 (2 ^ (min 32 (IntKind.bits .u64)))) * (IntKind.wrap .u64 (((BitVec.ofInt (IntKind.bits .u64) y2 &&& BitVec.ofInt (IntKind.bits .u64) 4294967295).toNat:Nat):Int)))) + (Int.fdiv (IntKind.wrap .u64 ((IntKind.wrap .u64 (((BitVec.ofInt (IntKind.bits .u64) x1 &&& BitVec.ofInt (IntKind.bits .u64) 4294967295).toNat:Nat):Int)) * (IntKind.wrap .u64 (((BitVec.ofInt (IntKind.bits .u64) y2 &&& BitVec.ofInt (IntKind.bits .u64) 4294967295).toNat:Nat):Int)))) (2 ^ (min 32 (IntKind.bits .u64)))))) (2 ^ (min 32 (IntKind.bits .u64)))))) + (Int.fdiv (IntKind.wrap .u64 ((IntKind.wrap .u64 (((BitVec.ofInt (IntKind.bits .u64) (IntKind.wrap .u64 ((IntKind.wrap .u64 ((Int.fdiv x1 (2 ^ (min 32 (IntKind.bits .u64)))) * (IntKind.wrap .u64 (((BitVec.ofInt (IntKind.bits .u64) y2 &&& BitVec.ofInt (IntKind.bits .u64) 4294967295).toNat:Nat):Int)))) + (Int.fdiv (IntKind.wrap .u64 ((IntKind.wrap .u64 (((BitVec.ofInt (IntKind.bits .u64) x1 &&& BitVec.ofInt (IntKind.bits .u64) 4294967295).toNat:Nat):Int)) * (IntKind.wrap .u64 (((BitVec.ofInt (IntKind.bits .u64) y2 &&& BitVec.ofInt (IntKind.bits .u64) 4294967295).toNat:Nat):Int)))) (2 ^ (min 32 (IntKind.bits .u64)))))) &&& BitVec.ofInt (IntKind.bits .u64) 4294967295).toNat:Nat):Int)) + (IntKind.wrap .u64 ((IntKind.wrap .u64 (((BitVec.ofInt (IntKind.bits .u64) x1 &&& BitVec.ofInt (IntKind.bits .u64) 4294967295).toNat:Nat):Int)) * (Int.fdiv y2 (2 ^ (min 32 (IntKind.bits .u64)))))))) (2 ^ (min 32 (IntKind.bits .u64))))),IntKind.wrap .u64 (x1 * y2))

def d_bits_Mul (fu:Nat) (x1:Int) (y2:Int):Option (Int × Int) :=
  obind (d_bits_Mul64 fu x1 y2) fun x3=>some (x3.1,x3.2)

def d_slices_Repeat_int_int_L1_B (fu:Nat)   (k3:List Int → Int → Option ((List Int))) (Aa:List Int) (Ab:Int):Option ((List Int)) :=
  bif (decide (Ab < ((Aa.length:Int)))) then obind (sls Aa Ab (Aa.length:Int)) fun Ad=>obind (sls Aa 0 Ab) fun Ac=>k3 (cpd Aa Ab Ac) (w64 (Ab + (cpn Aa Ab Ac))) else some (Aa)
def d_slices_Repeat_int_int_L1 (fu:Nat)   : Nat → List Int → Int → Option ((List Int))
  | 0=>fun _ _=>none
  | n + 1=>d_slices_Repeat_int_int_L1_B fu  (d_slices_Repeat_int_int_L1 fu  n)

def d_slices_Repeat_int_int_J1 (fu:Nat) (x1:List Int) (x8:Int × Int)  : Option ((List Int)) :=
  obind (mk 8 (0:Int) (w64 x8.2)) fun Aa=>d_slices_Repeat_int_int_L1 fu fu (cpd Aa 0 x1) (cpn Aa 0 x1)

def d_slices_Repeat_int_int_J2 (fu:Nat) (x1:List Int) (Aa:Int)  : Option ((List Int)) :=
  obind (d_bits_Mul fu (IntKind.wrap .u64 ((x1.length:Int))) (IntKind.wrap .u64 Aa)) fun x8=>bif (decide (x8.1 > 0)) then none else bif (decide (x8.2 > 9223372036854775807)) then none else d_slices_Repeat_int_int_J1 fu x1 x8

def d_slices_Repeat_int_int (fu:Nat) (x1:List Int) (Aa:Int):Option ((List Int)) :=
  bif (decide (Aa < 0)) then none else d_slices_Repeat_int_int_J2 fu x1 Aa

def d_impl_Units_L1_B (fu:Nat)  (r1:Request) (k1:List Int → Int → Option ((List Int))) (Ab:List Int) (Aa:Int):Option ((List Int)) :=
  bif (decide (Aa < ((r1.fItems.length:Int)))) then obind (ix r1.fItems Aa) fun Ac=>obind (d_slices_Repeat_int_int fu (([Aa]:List Int)) Ac.fCount) fun Ae=>obind (apnd 8 Ab Ae) fun Ad=>k1 Ad (w64 (Aa + 1)) else some (Ab)
def d_impl_Units_L1 (fu:Nat)  (r1:Request):Nat → List Int → Int → Option ((List Int))
  | 0=>fun _ _=>none
  | n + 1=>d_impl_Units_L1_B fu r1 (d_impl_Units_L1 fu r1 n)

def d_impl_Units (fu:Nat) (r1:Request):Option ((List Int)) :=
  obind (d_impl_sound fu r1) fun Aa=>bif (!Aa) then some (([]:List Int)) else d_impl_Units_L1 fu r1 fu (([]:List Int)) 0

def d_slices_Index_int_int_L1_B (fu:Nat)  (Ab:List Int) (v5:Int) (k1:Int → Option (Int)) (Aa:Int):Option (Int) :=
  bif (decide (Aa < ((Ab.length:Int)))) then obind (ix Ab Aa) fun Ac=>bif (v5 == Ac) then some (Aa) else k1 (w64 (Aa + 1)) else some ((-1))
def d_slices_Index_int_int_L1 (fu:Nat)  (Aa:List Int) (v5:Int):Nat → Int → Option (Int)
  | 0=>fun _=>none
  | n + 1=>d_slices_Index_int_int_L1_B fu Aa v5 (d_slices_Index_int_int_L1 fu Aa v5 n)

def d_slices_Index_int_int (fu:Nat) (Aa:List Int) (v5:Int):Option (Int) :=
  d_slices_Index_int_int_L1 fu Aa v5 fu 0

def d_slices_Contains_int_int (fu:Nat) (Aa:List Int) (v5:Int):Option (Bool) :=
  obind (d_slices_Index_int_int fu Aa v5) fun x6=>some (decide (x6 ≥ 0))

def d_impl_UnitsOf_J1 (fu:Nat) (k3:List Int → Int → Option ((List Int))) (Ab:Int) (Aa:List Int):Option ((List Int)) :=
  k3 Aa (w64 (Ab + 1))

def d_impl_UnitsOf_L1_B (fu:Nat)  (r1:Request) (Ai:Int) (Aj:(List (List Int))) (Ac:(List Int)) (k3:List Int → Int → Option ((List Int))) (Ab:List Int) (Aa:Int):Option ((List Int)) :=
  bif (decide (Aa < ((Ac.length:Int)))) then obind (ix Ac Aa) fun Ad=>obind (ix Aj Ai) fun Af=>obind (ix r1.fItems Ad) fun Ae=>obind (d_slices_Contains_int_int fu Af Ae.fClass) fun Ah=>bif Ah then obind (apnd 8 Ab (([Aa]:List Int))) fun Ag=>d_impl_UnitsOf_J1 fu k3 Aa Ag else d_impl_UnitsOf_J1 fu k3 Aa Ab else some (Ab)
def d_impl_UnitsOf_L1 (fu:Nat)  (r1:Request) (Ab:Int) (Aa:(List (List Int))) (Ac:(List Int)):Nat → List Int → Int → Option ((List Int))
  | 0=>fun _ _=>none
  | n + 1=>d_impl_UnitsOf_L1_B fu r1 Ab Aa Ac (d_impl_UnitsOf_L1 fu r1 Ab Aa Ac n)

def d_impl_UnitsOf (fu:Nat) (r1:Request) (Ab:Int):Option ((List Int)) :=
  obind (d_impl_GroupsOf fu r1) fun Aa=>obind (d_impl_in fu Ab 0 (w64 (((Aa.length:Int)) - 1))) fun Ad=>bif (!Ad) then some (([]:List Int)) else obind (d_impl_Units fu r1) fun Ac=>d_impl_UnitsOf_L1 fu r1 Ab Aa Ac fu (([]:List Int)) 0

def d_impl_thereOf_1 (fu:Nat) (u1:Int) (x2:Int):Option (Bool) :=
  obind (d_impl_in fu u1 0 (w64 (x2 - 1))) fun x5=>some (!x5)

def d_slices_DeleteFunc_int_int_J1 (fu:Nat) (k3:List Int → Int → Int → Option ((List Int))) (Aa:Int) (Ab:List Int) (Ac:Int):Option ((List Int)) :=
  k3 Ab Ac (w64 (Aa + 1))

def d_slices_DeleteFunc_int_int_L1_B (fu:Nat)  (f5:Int → Option Bool) (k3:List Int → Int → Int → Option ((List Int))) (Aa:List Int) (Ab:Int) (Ac:Int):Option ((List Int)) :=
  bif (decide (Ac < ((Aa.length:Int)))) then obind (ix Aa Ac) fun Ad=>obind (f5 Ad) fun Af=>bif (!Af) then obind (ix Aa Ab) fun Ag=>d_slices_DeleteFunc_int_int_J1 fu k3 Ac (setx Aa Ab Ad) (w64 (Ab + 1)) else d_slices_DeleteFunc_int_int_J1 fu k3 Ac Aa Ab else obind (sls Aa Ab (Aa.length:Int)) fun Ah=>obind (sls (clrd Aa Ab) 0 Ab) fun Ae=>some (Ae)
def d_slices_DeleteFunc_int_int_L1 (fu:Nat)  (f5:Int → Option Bool):Nat → List Int → Int → Int → Option ((List Int))
  | 0=>fun _ _ _=>none
  | n + 1=>d_slices_DeleteFunc_int_int_L1_B fu f5 (d_slices_DeleteFunc_int_int_L1 fu f5 n)

def d_slices_DeleteFunc_int_int (fu:Nat) (Ab:List Int) (f5:Int → Option Bool):Option ((List Int)) :=
  obind (d_slices_IndexFunc_int_int fu Ab f5) fun Aa=>bif (Aa == ((-1))) then some (Ab) else d_slices_DeleteFunc_int_int_L1 fu f5 fu Ab Aa (w64 (Aa + 1))

def d_impl_thereOf (fu:Nat) (r1:Request) (Ad:List Int):Option ((List Int)) :=
  obind (d_impl_Units fu r1) fun Aa=>obind (d_slices_Clone_int_int fu Ad) fun Ae=>obind (d_slices_DeleteFunc_int_int fu Ae (fun Ac=>d_impl_thereOf_1 fu Ac ((Aa.length:Int)))) fun Ab=>some (Ab)

def d_impl_itemsOf_J1 (fu:Nat) (k3:List Item → Int → Option ((List Item))) (Ab:Int) (Aa:List Item):Option ((List Item)) :=
  k3 Aa (w64 (Ab + 1))

def d_impl_itemsOf_L1_B (fu:Nat)  (r1:Request) (Ae:List Int) (Ad:(List Int)) (k3:List Item → Int → Option ((List Item))) (Ab:List Item) (Aa:Int):Option ((List Item)) :=
  bif (decide (Aa < ((Ae.length:Int)))) then obind (ix Ae Aa) fun Ac=>obind (d_impl_in fu Ac 0 (w64 (((Ad.length:Int)) - 1))) fun Ah=>bif Ah then obind (ix Ad Ac) fun Af=>obind (ix r1.fItems Af) fun Ai=>obind (apnd 56 Ab (([Ai]:List Item))) fun Ag=>d_impl_itemsOf_J1 fu k3 Aa Ag else d_impl_itemsOf_J1 fu k3 Aa Ab else some (Ab)
def d_impl_itemsOf_L1 (fu:Nat)  (r1:Request) (Aa:List Int) (Ab:(List Int)):Nat → List Item → Int → Option ((List Item))
  | 0=>fun _ _=>none
  | n + 1=>d_impl_itemsOf_L1_B fu r1 Aa Ab (d_impl_itemsOf_L1 fu r1 Aa Ab n)

def d_impl_itemsOf (fu:Nat) (r1:Request) (Aa:List Int):Option ((List Item)) :=
  obind (d_impl_Units fu r1) fun Ab=>d_impl_itemsOf_L1 fu r1 Aa Ab fu (([]:List Item)) 0

def d_impl_Volume_J1 (fu:Nat) (Aa:Int) (h2:Int) (d3:Int)  : Option (Int) :=
  some (w64 ((w64 (Aa * h2)) * d3))

def d_impl_Volume (fu:Nat) (Aa:Int) (h2:Int) (d3:Int):Option (Int) :=
  obind (d_impl_in fu Aa 0 2000) fun Ac=>bif (!Ac) then some (0) else obind (d_impl_in fu h2 0 2000) fun Ab=>bif (!Ab) then some (0) else obind (d_impl_in fu d3 0 2000) fun Ad=>bif (!Ad) then some (0) else d_impl_Volume_J1 fu Aa h2 d3

def d_impl_VolumeOf_L1_B (fu:Nat)  (Ad:(List Item)) (k1:Int → Int → Option (Int)) (Ac:Int) (Ab:Int):Option (Int) :=
  bif (decide (Ab < ((Ad.length:Int)))) then obind (ix Ad Ab) fun Aa=>obind (d_impl_Volume fu Aa.fW Aa.fH Aa.fD) fun Ae=>k1 (w64 (Ac + Ae)) (w64 (Ab + 1)) else some (Ac)
def d_impl_VolumeOf_L1 (fu:Nat)  (Aa:(List Item)):Nat → Int → Int → Option (Int)
  | 0=>fun _ _=>none
  | n + 1=>d_impl_VolumeOf_L1_B fu Aa (d_impl_VolumeOf_L1 fu Aa n)

def d_impl_VolumeOf (fu:Nat) (r1:Request) (Aa:List Int):Option (Int) :=
  obind (d_impl_itemsOf fu r1 Aa) fun Ab=>d_impl_VolumeOf_L1 fu Ab fu 0 0

def d_impl_GramOf_L1_B (fu:Nat)  (Ab:(List Item)) (k1:Int → Int → Option (Int)) (Ac:Int) (Aa:Int):Option (Int) :=
  bif (decide (Aa < ((Ab.length:Int)))) then obind (ix Ab Aa) fun Ad=>k1 (w64 (Ac + Ad.fGram)) (w64 (Aa + 1)) else some (Ac)
def d_impl_GramOf_L1 (fu:Nat)  (Aa:(List Item)):Nat → Int → Int → Option (Int)
  | 0=>fun _ _=>none
  | n + 1=>d_impl_GramOf_L1_B fu Aa (d_impl_GramOf_L1 fu Aa n)

def d_impl_GramOf (fu:Nat) (r1:Request) (Aa:List Int):Option (Int) :=
  obind (d_impl_itemsOf fu r1 Aa) fun Ab=>d_impl_GramOf_L1 fu Ab fu 0 0

def d_impl_within (fu:Nat) (r1:Request) (Aa:List Int) (t9:Typ):Option (Bool) :=
  obind (d_impl_VolumeOf fu r1 Aa) fun Ab=>obind (d_impl_Volume fu t9.fW t9.fH t9.fD) fun Ad=>bif (decide (Ab ≤ Ad)) then obind (d_impl_GramOf fu r1 Aa) fun Ac=>some (decide (Ac ≤ t9.fGram)) else some (false)

def d_impl_Room (fu:Nat) (r1:Request) (Ad:List Int) (u9:Int):Option (Bool) :=
  obind (d_impl_MasterOf fu r1) fun Ac=>obind (d_impl_sound fu r1) fun Ae=>bif Ae then obind (d_slices_Clone_int_int fu Ad) fun Ab=>obind (apnd 8 Ab (([u9]:List Int))) fun Af=>obind (d_impl_within fu r1 Af Ac.1) fun Aa=>some (Aa) else some (false)

def d_impl_NextFit_J1 (fu:Nat) (k3:List (List Int) → Int → Option ((List (List Int)))) (Ab:Int) (Aa:List (List Int)):Option ((List (List Int))) :=
  k3 Aa (w64 (Ab + 1))

def d_impl_NextFit_L1_B (fu:Nat)  (r1:Request) (Ae:(List Int)) (k3:List (List Int) → Int → Option ((List (List Int)))) (Aa:List (List Int)) (Ab:Int):Option ((List (List Int))) :=
  bif (decide (Ab < ((Ae.length:Int)))) then obind (ix Ae Ab) fun Ac=>bif (decide ((w64 (((Aa.length:Int)) - 1)) ≥ 0)) then obind (ix Aa (w64 (((Aa.length:Int)) - 1))) fun Ad=>obind (d_impl_Room fu r1 Ad Ac) fun Ai=>bif Ai then obind (ix Aa (w64 (((Aa.length:Int)) - 1))) fun Ak=>obind (apnd 8 Ad (([Ac]:List Int))) fun Ah=>obind (ix Aa (w64 (((Aa.length:Int)) - 1))) fun Aj=>d_impl_NextFit_J1 fu k3 Ab (setx Aa (w64 (((Aa.length:Int)) - 1)) Ah) else obind (apnd 24 Aa [([Ac]:List Int)]) fun Af=>d_impl_NextFit_J1 fu k3 Ab Af else obind (apnd 24 Aa [([Ac]:List Int)]) fun Ag=>d_impl_NextFit_J1 fu k3 Ab Ag else some (Aa)
def d_impl_NextFit_L1 (fu:Nat)  (r1:Request) (Aa:(List Int)):Nat → List (List Int) → Int → Option ((List (List Int)))
  | 0=>fun _ _=>none
  | n + 1=>d_impl_NextFit_L1_B fu r1 Aa (d_impl_NextFit_L1 fu r1 Aa n)

def d_impl_NextFit (fu:Nat) (r1:Request) (Aa:List Int):Option ((List (List Int))) :=
  obind (d_impl_thereOf fu r1 Aa) fun Ab=>d_impl_NextFit_L1 fu r1 Ab fu (([]:List (List Int))) 0

def d_impl_places_L1_B (fu:Nat)  (n1:Int) (k1:List Int → Int → Option ((List Int))) (Ab:List Int) (Aa:Int):Option ((List Int)) :=
  bif (decide (Aa < n1)) then obind (apnd 8 Ab (([Aa]:List Int))) fun Ac=>k1 Ac (w64 (Aa + 1)) else some (Ab)
def d_impl_places_L1 (fu:Nat)  (n1:Int):Nat → List Int → Int → Option ((List Int))
  | 0=>fun _ _=>none
  | n + 1=>d_impl_places_L1_B fu n1 (d_impl_places_L1 fu n1 n)

def d_impl_places (fu:Nat) (n1:Int):Option ((List Int)) :=
  d_impl_places_L1 fu n1 fu (([]:List Int)) 0

def d_impl_compare (fu:Nat) (a1:Int) (b2:Int):Option (Int) :=
  bif (decide (a1 < b2)) then some ((-1)) else bif (decide (a1 > b2)) then some (1) else some (0)

def d_impl_SortDown_1 (fu:Nat) (i1:Int) (j2:Int) (x3:List Int):Option (Int) :=
  obind (ix x3 j2) fun Ab=>obind (ix x3 i1) fun Ac=>obind (d_impl_compare fu Ab Ac) fun Aa=>some (Aa)

def d_slices_insertionSortCmpFunc_int_J1 (fu:Nat) (Ae:List Int → Int → Option ((List Int))) (Ab:List Int) (Aa:Int)  : Option ((List Int)) :=
  obind (ix Ab (w64 (Aa - 1))) fun Ac=>obind (ix Ab Aa) fun Ad=>obind (ix Ab Aa) fun Af=>obind (ix (setx Ab Aa Ac) (w64 (Aa - 1))) fun Ag=>Ae (setx (setx Ab Aa Ac) (w64 (Aa - 1)) Ad) (w64 (Aa - 1))

def d_slices_insertionSortCmpFunc_int_L1_B (fu:Nat) (k9:List Int → Int → Option ((List Int))) (a5:Int) (f7:Int → Int → Option Int) (Ac:Int) (Ag:List Int → Int → Option ((List Int))) (Aa:List Int) (Ab:Int):Option ((List Int)) :=
  bif (decide (Ab > a5)) then obind (ix Aa Ab) fun Ad=>obind (ix Aa (w64 (Ab - 1))) fun Af=>obind (f7 Ad Af) fun Ae=>bif (decide (Ae < 0)) then d_slices_insertionSortCmpFunc_int_J1 fu Ag Aa Ab else k9 Aa (w64 (Ac + 1)) else k9 Aa (w64 (Ac + 1))
def d_slices_insertionSortCmpFunc_int_L1 (fu:Nat) (k9:List Int → Int → Option ((List Int))) (a5:Int) (f7:Int → Int → Option Int) (Aa:Int):Nat → List Int → Int → Option ((List Int))
  | 0=>fun _ _=>none
  | n + 1=>d_slices_insertionSortCmpFunc_int_L1_B fu k9 a5 f7 Aa (d_slices_insertionSortCmpFunc_int_L1 fu k9 a5 f7 Aa n)

def d_slices_insertionSortCmpFunc_int_L2_B (fu:Nat)  (a5:Int) (b6:Int) (f7:Int → Int → Option Int) (k9:List Int → Int → Option ((List Int))) (Ab:List Int) (Aa:Int):Option ((List Int)) :=
  bif (decide (Aa < b6)) then d_slices_insertionSortCmpFunc_int_L1 fu k9 a5 f7 Aa fu Ab Aa else some (Ab)
def d_slices_insertionSortCmpFunc_int_L2 (fu:Nat)  (a5:Int) (b6:Int) (f7:Int → Int → Option Int):Nat → List Int → Int → Option ((List Int))
  | 0=>fun _ _=>none
  | n + 1=>d_slices_insertionSortCmpFunc_int_L2_B fu a5 b6 f7 (d_slices_insertionSortCmpFunc_int_L2 fu a5 b6 f7 n)

def d_slices_insertionSortCmpFunc_int (fu:Nat) (Aa:List Int) (a5:Int) (b6:Int) (f7:Int → Int → Option Int):Option ((List Int)) :=
  d_slices_insertionSortCmpFunc_int_L2 fu a5 b6 f7 fu Aa (w64 (a5 + 1))

def d_slices_symMergeCmpFunc_int (fu:Nat) (x0:List Int) (x1:Int) (x2:Int) (x3:Int) (x4:Int → Int → Option Int):Option ((List Int)):=none

def d_slices_stableCmpFunc_int_J1 (fu:Nat) (k6:List Int → Int → Option ((List Int))) (Aa:Int) (Ab:List Int):Option ((List Int)) :=
  k6 Ab (w64 (Aa * 2))

def d_slices_stableCmpFunc_int_L1_B (fu:Nat) (k6:List Int → Int → Option ((List Int))) (n5:Int) (f6:Int → Int → Option Int) (Aa:Int) (k7:List Int → Int → Int → Option ((List Int))) (Ad:List Int) (Ab:Int) (Ac:Int):Option ((List Int)) :=
  bif (decide (Ac ≤ n5)) then obind (d_slices_symMergeCmpFunc_int fu Ad Ab (w64 (Ab + Aa)) Ac f6) fun Af=>k7 Af Ac (w64 (Ac + (w64 (2 * Aa)))) else bif (decide ((w64 (Ab + Aa)) < n5)) then obind (d_slices_symMergeCmpFunc_int fu Ad Ab (w64 (Ab + Aa)) n5 f6) fun Ae=>d_slices_stableCmpFunc_int_J1 fu k6 Aa Ae else d_slices_stableCmpFunc_int_J1 fu k6 Aa Ad
def d_slices_stableCmpFunc_int_L1 (fu:Nat) (k6:List Int → Int → Option ((List Int))) (n5:Int) (f6:Int → Int → Option Int) (Aa:Int):Nat → List Int → Int → Int → Option ((List Int))
  | 0=>fun _ _ _=>none
  | n + 1=>d_slices_stableCmpFunc_int_L1_B fu k6 n5 f6 Aa (d_slices_stableCmpFunc_int_L1 fu k6 n5 f6 Aa n)

def d_slices_stableCmpFunc_int_L2_B (fu:Nat)  (n5:Int) (f6:Int → Int → Option Int) (k6:List Int → Int → Option ((List Int))) (Ab:List Int) (Aa:Int):Option ((List Int)) :=
  bif (decide (Aa < n5)) then d_slices_stableCmpFunc_int_L1 fu k6 n5 f6 Aa fu Ab 0 (w64 (2 * Aa)) else some (Ab)
def d_slices_stableCmpFunc_int_L2 (fu:Nat)  (n5:Int) (f6:Int → Int → Option Int):Nat → List Int → Int → Option ((List Int))
  | 0=>fun _ _=>none
  | n + 1=>d_slices_stableCmpFunc_int_L2_B fu n5 f6 (d_slices_stableCmpFunc_int_L2 fu n5 f6 n)

def d_slices_stableCmpFunc_int_L3_B (fu:Nat)  (n5:Int) (f6:Int → Int → Option Int) (k1:List Int → Int → Int → Option ((List Int))) (Ac:List Int) (Ab:Int) (Aa:Int):Option ((List Int)) :=
  bif (decide (Aa ≤ n5)) then obind (d_slices_insertionSortCmpFunc_int fu Ac Ab Aa f6) fun Ae=>k1 Ae Aa (w64 (Aa + 20)) else obind (d_slices_insertionSortCmpFunc_int fu Ac Ab n5 f6) fun Ad=>d_slices_stableCmpFunc_int_L2 fu n5 f6 fu Ad 20
def d_slices_stableCmpFunc_int_L3 (fu:Nat)  (n5:Int) (f6:Int → Int → Option Int):Nat → List Int → Int → Int → Option ((List Int))
  | 0=>fun _ _ _=>none
  | n + 1=>d_slices_stableCmpFunc_int_L3_B fu n5 f6 (d_slices_stableCmpFunc_int_L3 fu n5 f6 n)

def d_slices_stableCmpFunc_int (fu:Nat) (Aa:List Int) (n5:Int) (f6:Int → Int → Option Int):Option ((List Int)) :=
  d_slices_stableCmpFunc_int_L3 fu n5 f6 fu Aa 0 20

def d_slices_SortStableFunc_int_int (fu:Nat) (x1:List Int) (f5:Int → Int → Option Int):Option ((List Int)) :=
  obind (d_slices_stableCmpFunc_int fu x1 ((x1.length:Int)) f5) fun Aa=>some (Aa)

def d_impl_SortDown (fu:Nat) (Aa:List Int):Option ((List Int)) :=
  obind (d_impl_places fu ((Aa.length:Int))) fun x8=>obind (d_slices_SortStableFunc_int_int fu x8 (fun Ad Ac=>d_impl_SortDown_1 fu Ad Ac Aa)) fun Ab=>some (Ab)

def d_impl_FirstFit_1 (fu:Nat) (l1:List Int) (x5:Request) (Aa:Int):Option (Bool) :=
  obind (d_impl_Room fu x5 l1 Aa) fun Ab=>some (Ab)

def d_impl_FirstFit_J1 (fu:Nat) (k4:List (List Int) → Int → Option ((List (List Int)))) (Ab:Int) (Aa:List (List Int)):Option ((List (List Int))) :=
  k4 Aa (w64 (Ab + 1))

def d_impl_FirstFit_L1_B (fu:Nat)  (r1:Request) (Ah:(List Int)) (Ae:(List Int)) (k4:List (List Int) → Int → Option ((List (List Int)))) (Aa:List (List Int)) (Ac:Int):Option ((List (List Int))) :=
  bif (decide (Ac < ((Ae.length:Int)))) then obind (ix Ae Ac) fun Ai=>obind (ix Ah Ai) fun Ad=>obind (d_slices_IndexFunc_ints_int fu Aa (fun Af=>d_impl_FirstFit_1 fu Af r1 Ad)) fun Ab=>bif (decide (Ab < 0)) then obind (apnd 24 Aa [([Ad]:List Int)]) fun Ak=>d_impl_FirstFit_J1 fu k4 Ac Ak else obind (ix Aa Ab) fun Aj=>obind (apnd 8 Aj (([Ad]:List Int))) fun Ag=>obind (ix Aa Ab) fun Al=>d_impl_FirstFit_J1 fu k4 Ac (setx Aa Ab Ag) else some (Aa)
def d_impl_FirstFit_L1 (fu:Nat)  (r1:Request) (Ab:(List Int)) (Aa:(List Int)):Nat → List (List Int) → Int → Option ((List (List Int)))
  | 0=>fun _ _=>none
  | n + 1=>d_impl_FirstFit_L1_B fu r1 Ab Aa (d_impl_FirstFit_L1 fu r1 Ab Aa n)

def d_impl_FirstFit_L2_B (fu:Nat)  (r1:Request) (Aa:(List Int)) (k1:List Int → Int → Option ((List (List Int)))) (Ac:List Int) (Ab:Int):Option ((List (List Int))) :=
  bif (decide (Ab < ((Aa.length:Int)))) then obind (ix Aa Ab) fun Ag=>obind (d_impl_VolumeOf fu r1 (([Ag]:List Int))) fun Af=>obind (apnd 8 Ac (([Af]:List Int))) fun Ad=>k1 Ad (w64 (Ab + 1)) else obind (d_impl_SortDown fu Ac) fun Ae=>d_impl_FirstFit_L1 fu r1 Aa Ae fu (([]:List (List Int))) 0
def d_impl_FirstFit_L2 (fu:Nat)  (r1:Request) (Aa:(List Int)):Nat → List Int → Int → Option ((List (List Int)))
  | 0=>fun _ _=>none
  | n + 1=>d_impl_FirstFit_L2_B fu r1 Aa (d_impl_FirstFit_L2 fu r1 Aa n)

def d_impl_FirstFit (fu:Nat) (r1:Request) (Aa:List Int):Option ((List (List Int))) :=
  obind (d_impl_thereOf fu r1 Aa) fun Ab=>d_impl_FirstFit_L2 fu r1 Ab fu (([]:List Int)) 0

def d_impl_PackWay (fu:Nat) (r1:Request) (Aa:List Int):Option ((List (List Int))) :=
  bif (r1.fWay == 1) then obind (d_impl_NextFit fu r1 Aa) fun Ab=>some (Ab) else obind (d_impl_FirstFit fu r1 Aa) fun Ac=>some (Ac)

def d_impl_Holds_1 (fu:Nat) (x1:Item) (x2:Typ):Option (Bool) :=
  obind (d_impl_Fits fu x1 x2) fun x8=>some (!x8)

def d_impl_Holds_J1 (fu:Nat) (r1:Request) (Aa:List Int) (t9:Typ)  : Option (Bool) :=
  obind (d_impl_itemsOf fu r1 Aa) fun Ad=>obind (d_slices_ContainsFunc_impl_Item_impl_Item fu Ad (fun Ab=>d_impl_Holds_1 fu Ab t9)) fun Ac=>bif (!Ac) then obind (d_impl_within fu r1 Aa t9) fun Ae=>some (Ae) else some (false)

def d_impl_Holds (fu:Nat) (r1:Request) (Aa:List Int) (t9:Typ):Option (Bool) :=
  obind (d_impl_sound fu r1) fun Ac=>bif (!Ac) then some (false) else obind (d_impl_thereOf fu r1 Aa) fun Ab=>bif (((Ab.length:Int)) != ((Aa.length:Int))) then some (false) else d_impl_Holds_J1 fu r1 Aa t9

def d_impl_Cheapest_J1 (fu:Nat) (k3:Typ → Bool → Int → Option (Typ × Bool)) (Aa:Int) (Ac:Typ) (Ab:Bool):Option (Typ × Bool) :=
  k3 Ac Ab (w64 (Aa + 1))

def d_impl_Cheapest_L1_B (fu:Nat)  (r1:Request) (Af:List Int) (k3:Typ → Bool → Int → Option (Typ × Bool)) (Ac:Typ) (Ad:Bool) (Aa:Int):Option (Typ × Bool) :=
  bif (decide (Aa < ((r1.fTypes.length:Int)))) then obind (ix r1.fTypes Aa) fun Ab=>obind (d_impl_Holds fu r1 Af Ab) fun Ae=>bif (!Ae) then d_impl_Cheapest_J1 fu k3 Aa Ac Ad else bif (!Ad) then d_impl_Cheapest_J1 fu k3 Aa Ab true else bif (decide (Ab.fCost < Ac.fCost)) then d_impl_Cheapest_J1 fu k3 Aa Ab true else bif (Ab.fCost == Ac.fCost) then bif (decide (Ab.fId < Ac.fId)) then d_impl_Cheapest_J1 fu k3 Aa Ab true else d_impl_Cheapest_J1 fu k3 Aa Ac Ad else d_impl_Cheapest_J1 fu k3 Aa Ac Ad else some (Ac,Ad)
def d_impl_Cheapest_L1 (fu:Nat)  (r1:Request) (Aa:List Int):Nat → Typ → Bool → Int → Option (Typ × Bool)
  | 0=>fun _ _ _=>none
  | n + 1=>d_impl_Cheapest_L1_B fu r1 Aa (d_impl_Cheapest_L1 fu r1 Aa n)

def d_impl_Cheapest (fu:Nat) (r1:Request) (Aa:List Int):Option (Typ × Bool) :=
  d_impl_Cheapest_L1 fu r1 Aa fu ((⟨0,0,0,0,0,0,0⟩:Typ)) false 0

def d_impl_CartonsOf_L1_B (fu:Nat) (k3:List Carton → Int → Option ((List Carton))) (r1:Request) (Ad:Int) (Ac:(List (List Int))) (k4:List Carton → Int → Option ((List Carton))) (Ae:List Carton) (Aa:Int):Option ((List Carton)) :=
  bif (decide (Aa < ((Ac.length:Int)))) then obind (ix Ac Aa) fun Ab=>obind (d_impl_Cheapest fu r1 Ab) fun Af=>obind (d_slices_Sort_int_int fu Ab) fun Ag=>obind (apnd 40 Ae [(⟨Af.1.fId,Ad,Ag⟩:Carton)]) fun Ah=>k4 Ah (w64 (Aa + 1)) else k3 Ae (w64 (Ad + 1))
def d_impl_CartonsOf_L1 (fu:Nat) (k3:List Carton → Int → Option ((List Carton))) (r1:Request) (Ab:Int) (Aa:(List (List Int))):Nat → List Carton → Int → Option ((List Carton))
  | 0=>fun _ _=>none
  | n + 1=>d_impl_CartonsOf_L1_B fu k3 r1 Ab Aa (d_impl_CartonsOf_L1 fu k3 r1 Ab Aa n)

def d_impl_CartonsOf_L2_B (fu:Nat)  (r1:Request) (Ad:(List (List Int))) (k3:List Carton → Int → Option ((List Carton))) (Ab:List Carton) (Aa:Int):Option ((List Carton)) :=
  bif (decide (Aa < ((Ad.length:Int)))) then obind (d_impl_UnitsOf fu r1 Aa) fun Ac=>obind (d_impl_PackWay fu r1 Ac) fun Ae=>d_impl_CartonsOf_L1 fu k3 r1 Aa Ae fu Ab 0 else some (Ab)
def d_impl_CartonsOf_L2 (fu:Nat)  (r1:Request) (Aa:(List (List Int))):Nat → List Carton → Int → Option ((List Carton))
  | 0=>fun _ _=>none
  | n + 1=>d_impl_CartonsOf_L2_B fu r1 Aa (d_impl_CartonsOf_L2 fu r1 Aa n)

def d_impl_CartonsOf (fu:Nat) (r1:Request):Option ((List Carton)) :=
  obind (d_impl_GroupsOf fu r1) fun Aa=>d_impl_CartonsOf_L2 fu r1 Aa fu (([]:List Carton)) 0

def d_laws_eqPallet (fu:Nat) (a1:Pallet) (b2:Pallet):Option (Bool) :=
  bif (a1.fW != b2.fW) then some (false) else bif (a1.fD != b2.fD) then some (false) else bif (a1.fH != b2.fH) then some (false) else bif (a1.fGram != b2.fGram) then some (false) else some (true)

def d_laws_eqPair (fu:Nat) (a1:Pair) (b2:Pair):Option (Bool) :=
  bif (a1.fA != b2.fA) then some (false) else bif (a1.fB != b2.fB) then some (false) else some (true)

def d_laws_eqPairS_L1_B (fu:Nat)  (a1:List Pair) (b5:List Pair) (k1:Int → Option (Bool)) (Aa:Int):Option (Bool) :=
  bif (decide (Aa < ((a1.length:Int)))) then obind (ix a1 Aa) fun Ac=>obind (ix b5 Aa) fun Ad=>obind (d_laws_eqPair fu Ac Ad) fun Ab=>bif (!Ab) then some (false) else k1 (w64 (Aa + 1)) else some (true)
def d_laws_eqPairS_L1 (fu:Nat)  (a1:List Pair) (b5:List Pair):Nat → Int → Option (Bool)
  | 0=>fun _=>none
  | n + 1=>d_laws_eqPairS_L1_B fu a1 b5 (d_laws_eqPairS_L1 fu a1 b5 n)

def d_laws_eqPairS (fu:Nat) (a1:List Pair) (b5:List Pair):Option (Bool) :=
  bif (((a1.length:Int)) != ((b5.length:Int))) then some (false) else d_laws_eqPairS_L1 fu a1 b5 fu 0

def d_laws_eqType (fu:Nat) (a1:Typ) (b2:Typ):Option (Bool) :=
  bif (a1.fId != b2.fId) then some (false) else bif (a1.fW != b2.fW) then some (false) else bif (a1.fH != b2.fH) then some (false) else bif (a1.fD != b2.fD) then some (false) else bif (a1.fTare != b2.fTare) then some (false) else bif (a1.fGram != b2.fGram) then some (false) else bif (a1.fCost != b2.fCost) then some (false) else some (true)

def d_laws_eqTypeS_L1_B (fu:Nat)  (a1:List Typ) (b5:List Typ) (k1:Int → Option (Bool)) (Aa:Int):Option (Bool) :=
  bif (decide (Aa < ((a1.length:Int)))) then obind (ix a1 Aa) fun Ac=>obind (ix b5 Aa) fun Ad=>obind (d_laws_eqType fu Ac Ad) fun Ab=>bif (!Ab) then some (false) else k1 (w64 (Aa + 1)) else some (true)
def d_laws_eqTypeS_L1 (fu:Nat)  (a1:List Typ) (b5:List Typ):Nat → Int → Option (Bool)
  | 0=>fun _=>none
  | n + 1=>d_laws_eqTypeS_L1_B fu a1 b5 (d_laws_eqTypeS_L1 fu a1 b5 n)

def d_laws_eqTypeS (fu:Nat) (a1:List Typ) (b5:List Typ):Option (Bool) :=
  bif (((a1.length:Int)) != ((b5.length:Int))) then some (false) else d_laws_eqTypeS_L1 fu a1 b5 fu 0

def d_laws_eqItem (fu:Nat) (a1:Item) (b2:Item):Option (Bool) :=
  bif (a1.fId != b2.fId) then some (false) else bif (a1.fW != b2.fW) then some (false) else bif (a1.fH != b2.fH) then some (false) else bif (a1.fD != b2.fD) then some (false) else bif (a1.fGram != b2.fGram) then some (false) else bif (a1.fClass != b2.fClass) then some (false) else bif (a1.fCount != b2.fCount) then some (false) else some (true)

def d_laws_eqItemS_L1_B (fu:Nat)  (a1:List Item) (b5:List Item) (k1:Int → Option (Bool)) (Aa:Int):Option (Bool) :=
  bif (decide (Aa < ((a1.length:Int)))) then obind (ix a1 Aa) fun Ac=>obind (ix b5 Aa) fun Ad=>obind (d_laws_eqItem fu Ac Ad) fun Ab=>bif (!Ab) then some (false) else k1 (w64 (Aa + 1)) else some (true)
def d_laws_eqItemS_L1 (fu:Nat)  (a1:List Item) (b5:List Item):Nat → Int → Option (Bool)
  | 0=>fun _=>none
  | n + 1=>d_laws_eqItemS_L1_B fu a1 b5 (d_laws_eqItemS_L1 fu a1 b5 n)

def d_laws_eqItemS (fu:Nat) (a1:List Item) (b5:List Item):Option (Bool) :=
  bif (((a1.length:Int)) != ((b5.length:Int))) then some (false) else d_laws_eqItemS_L1 fu a1 b5 fu 0

def d_laws_eqRequest (fu:Nat) (a1:Request) (b5:Request):Option (Bool) :=
  bif (a1.fWay != b5.fWay) then some (false) else obind (d_laws_eqPallet fu a1.fPallet b5.fPallet) fun Ac=>bif (!Ac) then some (false) else bif (a1.fClasses != b5.fClasses) then some (false) else obind (d_laws_eqPairS fu a1.fPairs b5.fPairs) fun Ab=>bif (!Ab) then some (false) else obind (d_laws_eqTypeS fu a1.fTypes b5.fTypes) fun Aa=>bif (!Aa) then some (false) else bif (a1.fMaster != b5.fMaster) then some (false) else obind (d_laws_eqItemS fu a1.fItems b5.fItems) fun Ad=>bif (!Ad) then some (false) else some (true)

end Go.Proofs.YtkkfmjpbiimkbaaGreat
