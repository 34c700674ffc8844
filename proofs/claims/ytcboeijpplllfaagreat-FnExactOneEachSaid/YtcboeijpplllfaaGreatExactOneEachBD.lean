/- FnExactOneEach: what the functions that it reaches compute,on plain data. Printed by gen.py. -/
import Derived.Test.YtcboeijpplllfaaGreatS13
import Derived.Test.YtcboeijpplllfaaGreatS15
set_option linter.unusedVariables false
namespace Go.Proofs.YtcboeijpplllfaaGreat
open Go
def d_laws_szPairS (fu:Nat) (a1:List Pair) (Aa:Int):Option (Int) :=
  bif (decide ((w64 (Aa - ((a1.length:Int)))) < 0)) then some ((-1)) else some (w64 (Aa - ((a1.length:Int))))

def d_laws_szTypeS (fu:Nat) (a1:List Typ) (Aa:Int):Option (Int) :=
  bif (decide ((w64 (Aa - ((a1.length:Int)))) < 0)) then some ((-1)) else some (w64 (Aa - ((a1.length:Int))))

def d_laws_szItemS (fu:Nat) (a1:List Item) (Aa:Int):Option (Int) :=
  bif (decide ((w64 (Aa - ((a1.length:Int)))) < 0)) then some ((-1)) else some (w64 (Aa - ((a1.length:Int))))

def d_laws_szRequest (fu:Nat) (a1:Request) (Ad:Int):Option (Int) :=
  obind (d_laws_szPairS fu a1.fPairs Ad) fun Aa=>bif (decide (Aa < 0)) then some ((-1)) else obind (d_laws_szTypeS fu a1.fTypes Aa) fun Ac=>bif (decide (Ac < 0)) then some ((-1)) else obind (d_laws_szItemS fu a1.fItems Ac) fun Ab=>bif (decide (Ab < 0)) then some ((-1)) else some (Ab)

def d_laws_toPallet (fu:Nat) (a1:Pallet):Option (Pallet) :=
  some (a1)

def d_laws_toPair (fu:Nat) (a1:Pair):Option (Pair) :=
  some (a1)

def d_laws_toPairS_L1_B (fu:Nat)  (a1:List Pair) (k1:List Pair → Int → Option ((List Pair))) (Ab:List Pair) (Aa:Int):Option ((List Pair)) :=
  bif (decide (Aa < ((a1.length:Int)))) then obind (ix a1 Aa) fun Ac=>obind (d_laws_toPair fu Ac) fun Ad=>obind (ix Ab Aa) fun Ae=>k1 (setx Ab Aa Ad) (w64 (Aa + 1)) else some (Ab)
def d_laws_toPairS_L1 (fu:Nat)  (a1:List Pair):Nat → List Pair → Int → Option ((List Pair))
  | 0=>fun _ _=>none
  | n + 1=>d_laws_toPairS_L1_B fu a1 (d_laws_toPairS_L1 fu a1 n)

def d_laws_toPairS (fu:Nat) (a1:List Pair):Option ((List Pair)) :=
  obind (mk 16 (⟨(0:Int),(0:Int)⟩:Pair) ((a1.length:Int))) fun x5=>d_laws_toPairS_L1 fu a1 fu x5 0

def d_laws_toType (fu:Nat) (a1:Typ):Option (Typ) :=
  some (a1)

def d_laws_toTypeS_L1_B (fu:Nat)  (a1:List Typ) (k1:List Typ → Int → Option ((List Typ))) (Ab:List Typ) (Aa:Int):Option ((List Typ)) :=
  bif (decide (Aa < ((a1.length:Int)))) then obind (ix a1 Aa) fun Ac=>obind (d_laws_toType fu Ac) fun Ad=>obind (ix Ab Aa) fun Ae=>k1 (setx Ab Aa Ad) (w64 (Aa + 1)) else some (Ab)
def d_laws_toTypeS_L1 (fu:Nat)  (a1:List Typ):Nat → List Typ → Int → Option ((List Typ))
  | 0=>fun _ _=>none
  | n + 1=>d_laws_toTypeS_L1_B fu a1 (d_laws_toTypeS_L1 fu a1 n)

def d_laws_toTypeS (fu:Nat) (a1:List Typ):Option ((List Typ)) :=
  obind (mk 56 (⟨(0:Int),(0:Int),(0:Int),(0:Int),(0:Int),(0:Int),(0:Int)⟩:Typ) ((a1.length:Int))) fun x5=>d_laws_toTypeS_L1 fu a1 fu x5 0

def d_laws_toItem (fu:Nat) (a1:Item):Option (Item) :=
  some (a1)

def d_laws_toItemS_L1_B (fu:Nat)  (a1:List Item) (k1:List Item → Int → Option ((List Item))) (Ab:List Item) (Aa:Int):Option ((List Item)) :=
  bif (decide (Aa < ((a1.length:Int)))) then obind (ix a1 Aa) fun Ac=>obind (d_laws_toItem fu Ac) fun Ad=>obind (ix Ab Aa) fun Ae=>k1 (setx Ab Aa Ad) (w64 (Aa + 1)) else some (Ab)
def d_laws_toItemS_L1 (fu:Nat)  (a1:List Item):Nat → List Item → Int → Option ((List Item))
  | 0=>fun _ _=>none
  | n + 1=>d_laws_toItemS_L1_B fu a1 (d_laws_toItemS_L1 fu a1 n)

def d_laws_toItemS (fu:Nat) (a1:List Item):Option ((List Item)) :=
  obind (mk 56 (⟨(0:Int),(0:Int),(0:Int),(0:Int),(0:Int),(0:Int),(0:Int)⟩:Item) ((a1.length:Int))) fun x5=>d_laws_toItemS_L1 fu a1 fu x5 0

def d_laws_toRequest (fu:Nat) (a1:Request):Option (Request) :=
  obind (d_laws_toPallet fu a1.fPallet) fun Ad=>obind (d_laws_toPairS fu a1.fPairs) fun Ac=>obind (d_laws_toTypeS fu a1.fTypes) fun Aa=>obind (d_laws_toItemS fu a1.fItems) fun Ab=>some ((⟨a1.fWay,Ad,a1.fClasses,Ac,Aa,a1.fMaster,Ab⟩:Request))

def d_spec_l1In (fu:Nat) (x1:Int) (Ab:Int) (Aa:Int):Option (Bool) :=
  bif (decide (x1 ≥ Ab)) then some (decide (x1 ≤ Aa)) else some (false)

def d_spec_l2Side (fu:Nat) (x1:Int):Option (Bool) :=
  obind (d_spec_l1In fu x1 1 2000) fun x2=>some (x2)

def d_spec_PalletOk (fu:Nat) (x1:Pallet):Option (Bool) :=
  obind (d_spec_l2Side fu x1.fW) fun x5=>bif x5 then obind (d_spec_l2Side fu x1.fD) fun Aa=>bif Aa then obind (d_spec_l2Side fu x1.fH) fun Ab=>bif Ab then obind (d_spec_l1In fu x1.fGram 1 100000) fun Ac=>some (Ac) else some (false) else some (false) else some (false)

def d_spec_l2Id (fu:Nat) (x1:Int):Option (Bool) :=
  obind (d_spec_l1In fu x1 0 999) fun x2=>some (x2)

def d_spec_TypeOk (fu:Nat) (x1:Typ):Option (Bool) :=
  obind (d_spec_l2Id fu x1.fId) fun x5=>bif x5 then obind (d_spec_l2Side fu x1.fW) fun Ad=>bif Ad then obind (d_spec_l2Side fu x1.fH) fun Af=>bif Af then obind (d_spec_l2Side fu x1.fD) fun Ac=>bif Ac then obind (d_spec_l1In fu x1.fTare 0 100000) fun Aa=>bif Aa then obind (d_spec_l1In fu x1.fGram 1 100000) fun Ae=>bif Ae then obind (d_spec_l1In fu x1.fCost 0 100000) fun Ab=>some (Ab) else some (false) else some (false) else some (false) else some (false) else some (false) else some (false)

def d_spec_ItemOk (fu:Nat) (x1:Item):Option (Bool) :=
  obind (d_spec_l2Id fu x1.fId) fun x5=>bif x5 then obind (d_spec_l2Side fu x1.fW) fun Ad=>bif Ad then obind (d_spec_l2Side fu x1.fH) fun Af=>bif Af then obind (d_spec_l2Side fu x1.fD) fun Ac=>bif Ac then obind (d_spec_l1In fu x1.fGram 1 100000) fun Aa=>bif Aa then obind (d_spec_l1In fu x1.fClass 0 3) fun Ae=>bif Ae then obind (d_spec_l1In fu x1.fCount 1 6) fun Ab=>some (Ab) else some (false) else some (false) else some (false) else some (false) else some (false) else some (false)

def d_spec_BoundsOk_J1 (fu:Nat) (k4:Int → Option (Bool)) (Aa:Int)  : Option (Bool) :=
  k4 (w64 (Aa + 1))

def d_spec_BoundsOk_L1_B (fu:Nat)  (r1:Request) (k7:Int → Int → Option (Bool)) (Ab:Int) (Aa:Int):Option (Bool) :=
  bif (decide (Aa < ((r1.fItems.length:Int)))) then obind (ix r1.fItems Aa) fun Ac=>obind (d_spec_ItemOk fu Ac) fun Ad=>bif (!Ad) then some (false) else obind (ix r1.fItems Aa) fun Ae=>k7 (w64 (Ab + Ac.fCount)) (w64 (Aa + 1)) else some (decide (Ab ≤ 12))
def d_spec_BoundsOk_L1 (fu:Nat)  (r1:Request):Nat → Int → Int → Option (Bool)
  | 0=>fun _ _=>none
  | n + 1=>d_spec_BoundsOk_L1_B fu r1 (d_spec_BoundsOk_L1 fu r1 n)

def d_spec_BoundsOk_L2_B (fu:Nat)  (r1:Request) (k6:Int → Option (Bool)) (Aa:Int):Option (Bool) :=
  bif (decide (Aa < ((r1.fTypes.length:Int)))) then obind (ix r1.fTypes Aa) fun Ab=>obind (d_spec_TypeOk fu Ab) fun Ac=>bif (!Ac) then some (false) else k6 (w64 (Aa + 1)) else d_spec_BoundsOk_L1 fu r1 fu 0 0
def d_spec_BoundsOk_L2 (fu:Nat)  (r1:Request):Nat → Int → Option (Bool)
  | 0=>fun _=>none
  | n + 1=>d_spec_BoundsOk_L2_B fu r1 (d_spec_BoundsOk_L2 fu r1 n)

def d_spec_BoundsOk_L3_B (fu:Nat)  (r1:Request) (k4:Int → Option (Bool)) (Aa:Int):Option (Bool) :=
  bif (decide (Aa < ((r1.fPairs.length:Int)))) then obind (ix r1.fPairs Aa) fun Ab=>obind (d_spec_l1In fu Ab.fA 0 3) fun Ad=>bif (!Ad) then some (false) else obind (ix r1.fPairs Aa) fun Ae=>obind (d_spec_l1In fu Ab.fB 0 3) fun Ac=>bif (!Ac) then some (false) else d_spec_BoundsOk_J1 fu k4 Aa else d_spec_BoundsOk_L2 fu r1 fu 0
def d_spec_BoundsOk_L3 (fu:Nat)  (r1:Request):Nat → Int → Option (Bool)
  | 0=>fun _=>none
  | n + 1=>d_spec_BoundsOk_L3_B fu r1 (d_spec_BoundsOk_L3 fu r1 n)

def d_spec_BoundsOk_J2 (fu:Nat) (r1:Request)  : Option (Bool) :=
  d_spec_BoundsOk_L3 fu r1 fu 0

def d_spec_BoundsOk (fu:Nat) (r1:Request):Option (Bool) :=
  obind (d_spec_l1In fu r1.fWay 0 1) fun Aa=>bif (!Aa) then some (false) else obind (d_spec_PalletOk fu r1.fPallet) fun Ae=>bif (!Ae) then some (false) else obind (d_spec_l1In fu r1.fClasses 1 4) fun Ac=>bif (!Ac) then some (false) else bif (decide (((r1.fPairs.length:Int)) > 16)) then some (false) else obind (d_spec_l1In fu ((r1.fTypes.length:Int)) 1 5) fun Ad=>bif (!Ad) then some (false) else obind (d_spec_l2Id fu r1.fMaster) fun Ab=>bif (!Ab) then some (false) else bif (decide (((r1.fItems.length:Int)) > 8)) then some (false) else d_spec_BoundsOk_J2 fu r1

def d_spec_MasterOf_L1_B (fu:Nat)  (r1:Request) (k1:Int → Option (Typ × Bool)) (Aa:Int):Option (Typ × Bool) :=
  bif (decide (Aa < ((r1.fTypes.length:Int)))) then obind (ix r1.fTypes Aa) fun Ab=>bif (Ab.fId == r1.fMaster) then obind (ix r1.fTypes Aa) fun Ac=>some (Ab,true) else k1 (w64 (Aa + 1)) else some ((⟨0,0,0,0,0,0,0⟩:Typ),false)
def d_spec_MasterOf_L1 (fu:Nat)  (r1:Request):Nat → Int → Option (Typ × Bool)
  | 0=>fun _=>none
  | n + 1=>d_spec_MasterOf_L1_B fu r1 (d_spec_MasterOf_L1 fu r1 n)

def d_spec_MasterOf (fu:Nat) (r1:Request):Option (Typ × Bool) :=
  d_spec_MasterOf_L1 fu r1 fu 0

def d_spec_l5Names_L1_B (fu:Nat) (k3:Int → Option (Bool)) (r1:Request) (Ab:Int) (k4:Int → Option (Bool)) (Aa:Int):Option (Bool) :=
  bif (decide (Aa < Ab)) then obind (ix r1.fTypes Ab) fun Ac=>obind (ix r1.fTypes Aa) fun Ad=>bif (Ac.fId == Ad.fId) then some (false) else k4 (w64 (Aa + 1)) else k3 (w64 (Ab + 1))
def d_spec_l5Names_L1 (fu:Nat) (k3:Int → Option (Bool)) (r1:Request) (Aa:Int):Nat → Int → Option (Bool)
  | 0=>fun _=>none
  | n + 1=>d_spec_l5Names_L1_B fu k3 r1 Aa (d_spec_l5Names_L1 fu k3 r1 Aa n)

def d_spec_l5Names_L2_B (fu:Nat) (k7:Int → Option (Bool)) (r1:Request) (Ab:Int) (k8:Int → Option (Bool)) (Aa:Int):Option (Bool) :=
  bif (decide (Aa < Ab)) then obind (ix r1.fItems Ab) fun Ac=>obind (ix r1.fItems Aa) fun Ad=>bif (Ac.fId == Ad.fId) then some (false) else k8 (w64 (Aa + 1)) else k7 (w64 (Ab + 1))
def d_spec_l5Names_L2 (fu:Nat) (k7:Int → Option (Bool)) (r1:Request) (Aa:Int):Nat → Int → Option (Bool)
  | 0=>fun _=>none
  | n + 1=>d_spec_l5Names_L2_B fu k7 r1 Aa (d_spec_l5Names_L2 fu k7 r1 Aa n)

def d_spec_l5Names_J1 (fu:Nat) (Aa:Int → Option (Bool)) (Ab:Int)  : Option (Bool) :=
  Aa (w64 (Ab + 1))

def d_spec_l5Names_L3_B (fu:Nat)  (r1:Request) (Ac:Int → Option (Bool)) (Aa:Int):Option (Bool) :=
  bif (decide (Aa < ((r1.fPairs.length:Int)))) then obind (ix r1.fPairs Aa) fun Ab=>bif (decide (Ab.fA ≥ r1.fClasses)) then some (false) else obind (ix r1.fPairs Aa) fun Ae=>bif (decide (Ab.fB ≥ r1.fClasses)) then some (false) else d_spec_l5Names_J1 fu Ac Aa else obind (d_spec_MasterOf fu r1) fun Ad=>some (Ad.2)
def d_spec_l5Names_L3 (fu:Nat)  (r1:Request):Nat → Int → Option (Bool)
  | 0=>fun _=>none
  | n + 1=>d_spec_l5Names_L3_B fu r1 (d_spec_l5Names_L3 fu r1 n)

def d_spec_l5Names_L4_B (fu:Nat)  (r1:Request) (k7:Int → Option (Bool)) (Aa:Int):Option (Bool) :=
  bif (decide (Aa < ((r1.fItems.length:Int)))) then obind (ix r1.fItems Aa) fun Ab=>bif (decide (Ab.fClass ≥ r1.fClasses)) then some (false) else d_spec_l5Names_L2 fu k7 r1 Aa fu 0 else d_spec_l5Names_L3 fu r1 fu 0
def d_spec_l5Names_L4 (fu:Nat)  (r1:Request):Nat → Int → Option (Bool)
  | 0=>fun _=>none
  | n + 1=>d_spec_l5Names_L4_B fu r1 (d_spec_l5Names_L4 fu r1 n)

def d_spec_l5Names_L5_B (fu:Nat)  (r1:Request) (k3:Int → Option (Bool)) (Aa:Int):Option (Bool) :=
  bif (decide (Aa < ((r1.fTypes.length:Int)))) then d_spec_l5Names_L1 fu k3 r1 Aa fu 0 else d_spec_l5Names_L4 fu r1 fu 0
def d_spec_l5Names_L5 (fu:Nat)  (r1:Request):Nat → Int → Option (Bool)
  | 0=>fun _=>none
  | n + 1=>d_spec_l5Names_L5_B fu r1 (d_spec_l5Names_L5 fu r1 n)

def d_spec_l5Names (fu:Nat) (r1:Request):Option (Bool) :=
  d_spec_l5Names_L5 fu r1 fu 0

def d_spec_Beside_J1 (fu:Nat) (k3:Int → Option (Bool)) (Aa:Int)  : Option (Bool) :=
  k3 (w64 (Aa + 1))

def d_spec_Beside_L1_B (fu:Nat)  (Ab:List Pair) (a5:Int) (b6:Int) (k3:Int → Option (Bool)) (Aa:Int):Option (Bool) :=
  bif (decide (Aa < ((Ab.length:Int)))) then obind (ix Ab Aa) fun Ac=>bif (Ac.fA == a5) then obind (ix Ab Aa) fun Ad=>bif (Ac.fB == b6) then some (true) else d_spec_Beside_J1 fu k3 Aa else d_spec_Beside_J1 fu k3 Aa else some (false)
def d_spec_Beside_L1 (fu:Nat)  (Aa:List Pair) (a5:Int) (b6:Int):Nat → Int → Option (Bool)
  | 0=>fun _=>none
  | n + 1=>d_spec_Beside_L1_B fu Aa a5 b6 (d_spec_Beside_L1 fu Aa a5 b6 n)

def d_spec_Beside (fu:Nat) (Aa:List Pair) (a5:Int) (b6:Int):Option (Bool) :=
  d_spec_Beside_L1 fu Aa a5 b6 fu 0

def d_spec_TableOk_J1 (fu:Nat) (Aa:Int → Option (Bool)) (Ab:Int)  : Option (Bool) :=
  Aa (w64 (Ab + 1))

def d_spec_TableOk_L1_B (fu:Nat) (k9:Int → Option (Bool)) (Ac:List Pair) (Ah:Int) (Aa:Int) (Ad:Int → Option (Bool)) (Ab:Int):Option (Bool) :=
  bif (decide (Ab < Ah)) then bif (Aa == Ab) then obind (d_spec_Beside fu Ac Aa Aa) fun Ai=>bif (!Ai) then some (false) else obind (d_spec_Beside fu Ac Aa Ab) fun Ag=>obind (d_spec_Beside fu Ac Ab Aa) fun Ae=>bif (!(Ag == Ae)) then some (false) else d_spec_TableOk_J1 fu Ad Ab else obind (d_spec_Beside fu Ac Aa Ab) fun Aj=>obind (d_spec_Beside fu Ac Ab Aa) fun Af=>bif (!(Aj == Af)) then some (false) else d_spec_TableOk_J1 fu Ad Ab else k9 (w64 (Aa + 1))
def d_spec_TableOk_L1 (fu:Nat) (k9:Int → Option (Bool)) (Aa:List Pair) (Ac:Int) (Ab:Int):Nat → Int → Option (Bool)
  | 0=>fun _=>none
  | n + 1=>d_spec_TableOk_L1_B fu k9 Aa Ac Ab (d_spec_TableOk_L1 fu k9 Aa Ac Ab n)

def d_spec_TableOk_L2_B (fu:Nat)  (Ac:List Pair) (Ab:Int) (k9:Int → Option (Bool)) (Aa:Int):Option (Bool) :=
  bif (decide (Aa < Ab)) then d_spec_TableOk_L1 fu k9 Ac Ab Aa fu 0 else some (true)
def d_spec_TableOk_L2 (fu:Nat)  (Aa:List Pair) (Ab:Int):Nat → Int → Option (Bool)
  | 0=>fun _=>none
  | n + 1=>d_spec_TableOk_L2_B fu Aa Ab (d_spec_TableOk_L2 fu Aa Ab n)

def d_spec_TableOk (fu:Nat) (Ab:List Pair) (Aa:Int):Option (Bool) :=
  obind (d_spec_l1In fu Aa 1 4) fun x6=>bif (!x6) then some (false) else d_spec_TableOk_L2 fu Ab Aa fu 0

def d_spec_l1Places_L1_B (fu:Nat)  (n1:Int) (k1:List Int → Int → Option ((List Int))) (Ab:List Int) (Aa:Int):Option ((List Int)) :=
  bif (decide (Aa < n1)) then obind (apnd 8 Ab (([Aa]:List Int))) fun Ac=>k1 Ac (w64 (Aa + 1)) else some (Ab)
def d_spec_l1Places_L1 (fu:Nat)  (n1:Int):Nat → List Int → Int → Option ((List Int))
  | 0=>fun _ _=>none
  | n + 1=>d_spec_l1Places_L1_B fu n1 (d_spec_l1Places_L1 fu n1 n)

def d_spec_l1Places (fu:Nat) (n1:Int):Option ((List Int)) :=
  d_spec_l1Places_L1 fu n1 fu (([]:List Int)) 0

def d_spec_l1Merge_J1 (fu:Nat) (k3:List Int → Int → Int → Option ((List Int))) (Ah:List Int) (Ak:Bool) (Ac:(List Int)) (Ae:(List Int)) (Ad:List Int) (Aa:Int) (Ab:Int)  : Option ((List Int)) :=
  bif (Ab == ((Ae.length:Int))) then obind (ix Ac Aa) fun Aw=>obind (apnd 8 Ad (([Aw]:List Int))) fun At=>k3 At (w64 (Aa + 1)) Ab else bif (Aa == ((Ac.length:Int))) then obind (ix Ae Ab) fun Ap=>obind (apnd 8 Ad (([Ap]:List Int))) fun As=>k3 As Aa (w64 (Ab + 1)) else obind (ix Ae Ab) fun Ag=>obind (ix Ah Ag) fun Ai=>obind (ix Ac Aa) fun Af=>obind (ix Ah Af) fun Aj=>bif (decide (Ai < Aj)) then bif (!Ak) then obind (ix Ae Ab) fun Bc=>obind (apnd 8 Ad (([Ag]:List Int))) fun Av=>k3 Av Aa (w64 (Ab + 1)) else obind (ix Ae Ab) fun Be=>obind (ix Ah Ag) fun Bf=>obind (ix Ac Aa) fun Ay=>obind (ix Ah Af) fun Az=>bif (decide (Ai > Aj)) then bif Ak then obind (ix Ae Ab) fun Bb=>obind (apnd 8 Ad (([Ag]:List Int))) fun Ar=>k3 Ar Aa (w64 (Ab + 1)) else obind (ix Ac Aa) fun Bh=>obind (apnd 8 Ad (([Af]:List Int))) fun Al=>k3 Al (w64 (Aa + 1)) Ab else obind (ix Ac Aa) fun Bl=>obind (apnd 8 Ad (([Af]:List Int))) fun Au=>k3 Au (w64 (Aa + 1)) Ab else obind (ix Ae Ab) fun Bd=>obind (ix Ah Ag) fun Bk=>obind (ix Ac Aa) fun Ba=>obind (ix Ah Af) fun Bj=>bif (decide (Ai > Aj)) then bif Ak then obind (ix Ae Ab) fun Bg=>obind (apnd 8 Ad (([Ag]:List Int))) fun Am=>k3 Am Aa (w64 (Ab + 1)) else obind (ix Ac Aa) fun Bi=>obind (apnd 8 Ad (([Af]:List Int))) fun Aq=>k3 Aq (w64 (Aa + 1)) Ab else obind (ix Ac Aa) fun Ax=>obind (apnd 8 Ad (([Af]:List Int))) fun Ao=>k3 Ao (w64 (Aa + 1)) Ab

def d_spec_l1Merge_L1_B (fu:Nat)  (Ag:List Int) (Af:Bool) (Ab:(List Int)) (Ac:(List Int)) (k3:List Int → Int → Int → Option ((List Int))) (Aa:List Int) (Ad:Int) (Ae:Int):Option ((List Int)) :=
  bif (decide (Ad < ((Ab.length:Int)))) then d_spec_l1Merge_J1 fu k3 Ag Af Ab Ac Aa Ad Ae else bif (decide (Ae < ((Ac.length:Int)))) then d_spec_l1Merge_J1 fu k3 Ag Af Ab Ac Aa Ad Ae else some (Aa)
def d_spec_l1Merge_L1 (fu:Nat)  (Ab:List Int) (Aa:Bool) (Ac:(List Int)) (Ad:(List Int)):Nat → List Int → Int → Int → Option ((List Int))
  | 0=>fun _ _ _=>none
  | n + 1=>d_spec_l1Merge_L1_B fu Ab Aa Ac Ad (d_spec_l1Merge_L1 fu Ab Aa Ac Ad n)

def d_spec_l1Merge_RB (fu:Nat) (self:List Int → List Int → Bool → Option ((List Int))) (Ac:List Int) (Aa:List Int) (Ab:Bool):Option ((List Int)) :=
  bif (decide (((Aa.length:Int)) < 2)) then obind (apnd 8 (([]:List Int)) Aa) fun Ah=>some (Ah) else obind (sls Aa 0 (w64 (Int.tdiv ((Aa.length:Int)) 2))) fun Ag=>obind (self Ac Ag Ab) fun Ad=>obind (sls Aa (w64 (Int.tdiv ((Aa.length:Int)) 2)) (Aa.length:Int)) fun Ae=>obind (self Ac Ae Ab) fun Af=>d_spec_l1Merge_L1 fu Ac Ab Ad Af fu (([]:List Int)) 0 0
def d_spec_l1Merge_R (fu:Nat):Nat → List Int → List Int → Bool → Option ((List Int))
  | 0=>fun _ _ _=>none
  | n + 1=>d_spec_l1Merge_RB fu (d_spec_l1Merge_R fu n)
def d_spec_l1Merge (fu:Nat) (Ab:List Int) (Ac:List Int) (Aa:Bool):Option ((List Int)):=d_spec_l1Merge_R fu fu Ab Ac Aa

def d_spec_SortUp (fu:Nat) (Aa:List Int):Option ((List Int)) :=
  obind (d_spec_l1Places fu ((Aa.length:Int))) fun x5=>obind (d_spec_l1Merge fu Aa x5 false) fun Ab=>some (Ab)

def d_spec_l5Sides (fu:Nat) (Aa:Int) (h2:Int) (d3:Int):Option ((List Int)) :=
  obind (d_spec_SortUp fu (([Aa,h2,d3]:List Int))) fun x9=>obind (ix x9 0) fun Ab=>obind (ix (([Aa,h2,d3]:List Int)) Ab) fun Ad=>obind (ix x9 1) fun Af=>obind (ix (([Aa,h2,d3]:List Int)) Af) fun Ag=>obind (ix x9 2) fun Ac=>obind (ix (([Aa,h2,d3]:List Int)) Ac) fun Ae=>some (([Ad,Ag,Ae]:List Int))

def d_spec_Fits (fu:Nat) (x1:Item) (t2:Typ):Option (Bool) :=
  obind (d_spec_l5Sides fu x1.fW x1.fH x1.fD) fun Ab=>obind (d_spec_l5Sides fu t2.fW t2.fH t2.fD) fun Aa=>obind (ix Ab 0) fun Ae=>obind (ix Aa 0) fun Ag=>bif (decide (Ae ≤ Ag)) then obind (ix Ab 1) fun Af=>obind (ix Aa 1) fun Ac=>bif (decide (Af ≤ Ac)) then obind (ix Ab 2) fun Ah=>obind (ix Aa 2) fun Ad=>bif (decide (Ah ≤ Ad)) then some (decide (x1.fGram ≤ t2.fGram)) else some (false) else some (false) else some (false)

def d_spec_Class_J1 (fu:Nat) (k4:Int → Option (Int)) (Aa:Int)  : Option (Int) :=
  k4 (w64 (Aa + 1))

def d_spec_Class_L1_B (fu:Nat)  (r1:Request) (k4:Int → Option (Int)) (Ab:Int):Option (Int) :=
  bif (decide (Ab < ((r1.fTypes.length:Int)))) then obind (ix r1.fTypes Ab) fun Aa=>bif (decide (Aa.fW > r1.fPallet.fW)) then some (6) else bif (decide (Aa.fD > r1.fPallet.fD)) then some (6) else bif (decide (Aa.fH > r1.fPallet.fH)) then some (6) else bif (decide ((w64 (Aa.fTare + Aa.fGram)) > r1.fPallet.fGram)) then some (6) else d_spec_Class_J1 fu k4 Ab else some (0)
def d_spec_Class_L1 (fu:Nat)  (r1:Request):Nat → Int → Option (Int)
  | 0=>fun _=>none
  | n + 1=>d_spec_Class_L1_B fu r1 (d_spec_Class_L1 fu r1 n)

def d_spec_Class_L2_B (fu:Nat)  (r1:Request) (Ab:Typ × Bool) (k1:Int → Option (Int)) (Aa:Int):Option (Int) :=
  bif (decide (Aa < ((r1.fItems.length:Int)))) then obind (ix r1.fItems Aa) fun Ac=>obind (d_spec_Fits fu Ac Ab.1) fun Ad=>bif (!Ad) then some (5) else k1 (w64 (Aa + 1)) else d_spec_Class_L1 fu r1 fu 0
def d_spec_Class_L2 (fu:Nat)  (r1:Request) (Aa:Typ × Bool):Nat → Int → Option (Int)
  | 0=>fun _=>none
  | n + 1=>d_spec_Class_L2_B fu r1 Aa (d_spec_Class_L2 fu r1 Aa n)

def d_spec_Class (fu:Nat) (r1:Request):Option (Int) :=
  obind (d_spec_BoundsOk fu r1) fun Aa=>bif (!Aa) then some (2) else obind (d_spec_l5Names fu r1) fun Ab=>bif (!Ab) then some (3) else obind (d_spec_TableOk fu r1.fPairs r1.fClasses) fun Ad=>bif (!Ad) then some (4) else obind (d_spec_MasterOf fu r1) fun Ac=>d_spec_Class_L2 fu r1 Ac fu 0

def d_spec_l6Units_L1_B (fu:Nat) (k3:List Int → Int → Option ((List Int))) (r1:Request) (Aa:Int) (k4:List Int → Int → Option ((List Int))) (Ac:List Int) (Ab:Int):Option ((List Int)) :=
  obind (ix r1.fItems Aa) fun Ad=>bif (decide (Ab < Ad.fCount)) then obind (apnd 8 Ac (([Aa]:List Int))) fun Ae=>k4 Ae (w64 (Ab + 1)) else k3 Ac (w64 (Aa + 1))
def d_spec_l6Units_L1 (fu:Nat) (k3:List Int → Int → Option ((List Int))) (r1:Request) (Aa:Int):Nat → List Int → Int → Option ((List Int))
  | 0=>fun _ _=>none
  | n + 1=>d_spec_l6Units_L1_B fu k3 r1 Aa (d_spec_l6Units_L1 fu k3 r1 Aa n)

def d_spec_l6Units_L2_B (fu:Nat)  (r1:Request) (k3:List Int → Int → Option ((List Int))) (Ab:List Int) (Aa:Int):Option ((List Int)) :=
  bif (decide (Aa < ((r1.fItems.length:Int)))) then d_spec_l6Units_L1 fu k3 r1 Aa fu Ab 0 else some (Ab)
def d_spec_l6Units_L2 (fu:Nat)  (r1:Request):Nat → List Int → Int → Option ((List Int))
  | 0=>fun _ _=>none
  | n + 1=>d_spec_l6Units_L2_B fu r1 (d_spec_l6Units_L2 fu r1 n)

def d_spec_l6Units (fu:Nat) (r1:Request):Option ((List Int)) :=
  d_spec_l6Units_L2 fu r1 fu (([]:List Int)) 0

def d_spec_Units (fu:Nat) (r1:Request):Option ((List Int)) :=
  obind (d_spec_Class fu r1) fun Aa=>bif (Aa != 0) then some (([]:List Int)) else obind (d_spec_l6Units fu r1) fun Ab=>some (Ab)

def d_spec_OneEach_L1_B (fu:Nat)  (Ac:(List Int)) (k1:List (List Int) → Int → Option ((List (List Int)))) (Ab:List (List Int)) (Aa:Int):Option ((List (List Int))) :=
  bif (decide (Aa < ((Ac.length:Int)))) then obind (apnd 24 Ab [([Aa]:List Int)]) fun Ad=>k1 Ad (w64 (Aa + 1)) else some (Ab)
def d_spec_OneEach_L1 (fu:Nat)  (Aa:(List Int)):Nat → List (List Int) → Int → Option ((List (List Int)))
  | 0=>fun _ _=>none
  | n + 1=>d_spec_OneEach_L1_B fu Aa (d_spec_OneEach_L1 fu Aa n)

def d_spec_OneEach (fu:Nat) (r1:Request):Option ((List (List Int))) :=
  obind (d_spec_Units fu r1) fun Aa=>d_spec_OneEach_L1 fu Aa fu (([]:List (List Int))) 0

def d_impl_TypeById_1 (fu:Nat) (t1:Typ) (x2:Int):Option (Bool) :=
  some (t1.fId == x2)

def d_slices_IndexFunc_impl_Type_impl_Type_L1_B (fu:Nat)  (Ab:List Typ) (f5:Typ → Option Bool) (k1:Int → Option (Int)) (Aa:Int):Option (Int) :=
  bif (decide (Aa < ((Ab.length:Int)))) then obind (ix Ab Aa) fun Ac=>obind (f5 Ac) fun Ad=>bif Ad then some (Aa) else k1 (w64 (Aa + 1)) else some ((-1))
def d_slices_IndexFunc_impl_Type_impl_Type_L1 (fu:Nat)  (Aa:List Typ) (f5:Typ → Option Bool):Nat → Int → Option (Int)
  | 0=>fun _=>none
  | n + 1=>d_slices_IndexFunc_impl_Type_impl_Type_L1_B fu Aa f5 (d_slices_IndexFunc_impl_Type_impl_Type_L1 fu Aa f5 n)

def d_slices_IndexFunc_impl_Type_impl_Type (fu:Nat) (Aa:List Typ) (f5:Typ → Option Bool):Option (Int) :=
  d_slices_IndexFunc_impl_Type_impl_Type_L1 fu Aa f5 fu 0

def d_impl_TypeById (fu:Nat) (r1:Request) (Ab:Int):Option (Typ × Bool) :=
  obind (d_slices_IndexFunc_impl_Type_impl_Type fu r1.fTypes (fun Ac=>d_impl_TypeById_1 fu Ac Ab)) fun Aa=>bif (decide (Aa < 0)) then some ((⟨0,0,0,0,0,0,0⟩:Typ),false) else obind (ix r1.fTypes Aa) fun Ad=>some (Ad,true)

def d_impl_MasterOf (fu:Nat) (r1:Request):Option (Typ × Bool) :=
  obind (d_impl_TypeById fu r1 r1.fMaster) fun Aa=>some (Aa.1,Aa.2)

def d_impl_in (fu:Nat) (n1:Int) (Ab:Int) (Aa:Int):Option (Bool) :=
  bif (decide (n1 ≥ Ab)) then some (decide (n1 ≤ Aa)) else some (false)

def d_impl_isSide (fu:Nat) (n1:Int):Option (Bool) :=
  obind (d_impl_in fu n1 1 2000) fun x2=>some (x2)

def d_impl_PalletOk (fu:Nat) (x1:Pallet):Option (Bool) :=
  obind (d_impl_isSide fu x1.fW) fun x5=>bif x5 then obind (d_impl_isSide fu x1.fD) fun Aa=>bif Aa then obind (d_impl_isSide fu x1.fH) fun Ab=>bif Ab then obind (d_impl_in fu x1.fGram 1 100000) fun Ac=>some (Ac) else some (false) else some (false) else some (false)

def d_slices_IndexFunc_impl_Pair_impl_Pair_L1_B (fu:Nat)  (Ab:List Pair) (f5:Pair → Option Bool) (k1:Int → Option (Int)) (Aa:Int):Option (Int) :=
  bif (decide (Aa < ((Ab.length:Int)))) then obind (ix Ab Aa) fun Ac=>obind (f5 Ac) fun Ad=>bif Ad then some (Aa) else k1 (w64 (Aa + 1)) else some ((-1))
def d_slices_IndexFunc_impl_Pair_impl_Pair_L1 (fu:Nat)  (Aa:List Pair) (f5:Pair → Option Bool):Nat → Int → Option (Int)
  | 0=>fun _=>none
  | n + 1=>d_slices_IndexFunc_impl_Pair_impl_Pair_L1_B fu Aa f5 (d_slices_IndexFunc_impl_Pair_impl_Pair_L1 fu Aa f5 n)

def d_slices_IndexFunc_impl_Pair_impl_Pair (fu:Nat) (Aa:List Pair) (f5:Pair → Option Bool):Option (Int) :=
  d_slices_IndexFunc_impl_Pair_impl_Pair_L1 fu Aa f5 fu 0

def d_slices_ContainsFunc_impl_Pair_impl_Pair (fu:Nat) (Ab:List Pair) (f5:Pair → Option Bool):Option (Bool) :=
  obind (d_slices_IndexFunc_impl_Pair_impl_Pair fu Ab f5) fun Aa=>some (decide (Aa ≥ 0))

def d_impl_BoundsOk_1 (fu:Nat) (p1:Pair):Option (Bool) :=
  obind (d_impl_in fu p1.fA 0 3) fun x5=>bif (!x5) then some (true) else obind (d_impl_in fu p1.fB 0 3) fun Aa=>some (!Aa)

def d_slices_ContainsFunc_impl_Type_impl_Type (fu:Nat) (Ab:List Typ) (f5:Typ → Option Bool):Option (Bool) :=
  obind (d_slices_IndexFunc_impl_Type_impl_Type fu Ab f5) fun Aa=>some (decide (Aa ≥ 0))

def d_impl_TypeOk (fu:Nat) (x1:Typ):Option (Bool) :=
  obind (d_impl_in fu x1.fId 0 999) fun x5=>bif x5 then obind (d_impl_isSide fu x1.fW) fun Ad=>bif Ad then obind (d_impl_isSide fu x1.fH) fun Af=>bif Af then obind (d_impl_isSide fu x1.fD) fun Ac=>bif Ac then obind (d_impl_in fu x1.fTare 0 100000) fun Aa=>bif Aa then obind (d_impl_in fu x1.fGram 1 100000) fun Ae=>bif Ae then obind (d_impl_in fu x1.fCost 0 100000) fun Ab=>some (Ab) else some (false) else some (false) else some (false) else some (false) else some (false) else some (false)

def d_impl_BoundsOk_2 (fu:Nat) (t1:Typ):Option (Bool) :=
  obind (d_impl_TypeOk fu t1) fun x5=>some (!x5)

def d_impl_ItemOk (fu:Nat) (x1:Item):Option (Bool) :=
  obind (d_impl_in fu x1.fId 0 999) fun x5=>bif x5 then obind (d_impl_isSide fu x1.fW) fun Ad=>bif Ad then obind (d_impl_isSide fu x1.fH) fun Af=>bif Af then obind (d_impl_isSide fu x1.fD) fun Ac=>bif Ac then obind (d_impl_in fu x1.fGram 1 100000) fun Aa=>bif Aa then obind (d_impl_in fu x1.fClass 0 3) fun Ae=>bif Ae then obind (d_impl_in fu x1.fCount 1 6) fun Ab=>some (Ab) else some (false) else some (false) else some (false) else some (false) else some (false) else some (false)

def d_impl_BoundsOk_L1_B (fu:Nat)  (r1:Request) (k3:Int → Int → Option (Bool)) (Ac:Int) (Aa:Int):Option (Bool) :=
  bif (decide (Aa < ((r1.fItems.length:Int)))) then obind (ix r1.fItems Aa) fun Ab=>obind (d_impl_ItemOk fu Ab) fun Ad=>bif (!Ad) then some (false) else k3 (w64 (Ac + Ab.fCount)) (w64 (Aa + 1)) else some (decide (Ac ≤ 12))
def d_impl_BoundsOk_L1 (fu:Nat)  (r1:Request):Nat → Int → Int → Option (Bool)
  | 0=>fun _ _=>none
  | n + 1=>d_impl_BoundsOk_L1_B fu r1 (d_impl_BoundsOk_L1 fu r1 n)

def d_impl_BoundsOk_J1 (fu:Nat) (r1:Request)  : Option (Bool) :=
  d_impl_BoundsOk_L1 fu r1 fu 0 0

def d_impl_BoundsOk_J2 (fu:Nat) (r1:Request)  : Option (Bool) :=
  obind (d_slices_ContainsFunc_impl_Pair_impl_Pair fu r1.fPairs (fun Ae=>d_impl_BoundsOk_1 fu Ae)) fun Af=>bif Af then some (false) else obind (d_impl_in fu ((r1.fTypes.length:Int)) 1 5) fun Ab=>bif (!Ab) then some (false) else obind (d_slices_ContainsFunc_impl_Type_impl_Type fu r1.fTypes (fun Ac=>d_impl_BoundsOk_2 fu Ac)) fun Ad=>bif Ad then some (false) else obind (d_impl_in fu r1.fMaster 0 999) fun Aa=>bif (!Aa) then some (false) else bif (decide (((r1.fItems.length:Int)) > 8)) then some (false) else d_impl_BoundsOk_J1 fu r1

def d_impl_BoundsOk (fu:Nat) (r1:Request):Option (Bool) :=
  obind (d_impl_in fu r1.fWay 0 1) fun Ac=>bif (!Ac) then some (false) else obind (d_impl_PalletOk fu r1.fPallet) fun Aa=>bif (!Aa) then some (false) else obind (d_impl_in fu r1.fClasses 1 4) fun Ab=>bif (!Ab) then some (false) else bif (decide (((r1.fPairs.length:Int)) > 16)) then some (false) else d_impl_BoundsOk_J2 fu r1

def d_impl_namesOk_1 (fu:Nat) (q1:Typ) (x2:Typ):Option (Bool) :=
  some (q1.fId == x2.fId)

def d_impl_namesOk_2 (fu:Nat) (q1:Item) (x2:Item):Option (Bool) :=
  some (q1.fId == x2.fId)

def d_slices_IndexFunc_impl_Item_impl_Item_L1_B (fu:Nat)  (Ab:List Item) (f5:Item → Option Bool) (k1:Int → Option (Int)) (Aa:Int):Option (Int) :=
  bif (decide (Aa < ((Ab.length:Int)))) then obind (ix Ab Aa) fun Ac=>obind (f5 Ac) fun Ad=>bif Ad then some (Aa) else k1 (w64 (Aa + 1)) else some ((-1))
def d_slices_IndexFunc_impl_Item_impl_Item_L1 (fu:Nat)  (Aa:List Item) (f5:Item → Option Bool):Nat → Int → Option (Int)
  | 0=>fun _=>none
  | n + 1=>d_slices_IndexFunc_impl_Item_impl_Item_L1_B fu Aa f5 (d_slices_IndexFunc_impl_Item_impl_Item_L1 fu Aa f5 n)

def d_slices_IndexFunc_impl_Item_impl_Item (fu:Nat) (Aa:List Item) (f5:Item → Option Bool):Option (Int) :=
  d_slices_IndexFunc_impl_Item_impl_Item_L1 fu Aa f5 fu 0

def d_slices_ContainsFunc_impl_Item_impl_Item (fu:Nat) (Ab:List Item) (f5:Item → Option Bool):Option (Bool) :=
  obind (d_slices_IndexFunc_impl_Item_impl_Item fu Ab f5) fun Aa=>some (decide (Aa ≥ 0))

def d_impl_namesOk_3 (fu:Nat) (p1:Pair) (x2:Request):Option (Bool) :=
  bif (decide (p1.fA ≥ x2.fClasses)) then some (true) else some (decide (p1.fB ≥ x2.fClasses))

def d_impl_namesOk_J1 (fu:Nat) (k4:Int → Option (Bool)) (Aa:Int)  : Option (Bool) :=
  k4 (w64 (Aa + 1))

def d_impl_namesOk_L1_B (fu:Nat)  (r1:Request) (k4:Int → Option (Bool)) (Aa:Int):Option (Bool) :=
  bif (decide (Aa < ((r1.fItems.length:Int)))) then obind (ix r1.fItems Aa) fun Ab=>bif (decide (Ab.fClass ≥ r1.fClasses)) then some (false) else obind (sls r1.fItems 0 Aa) fun Ah=>obind (d_slices_ContainsFunc_impl_Item_impl_Item fu Ah (fun Ac=>d_impl_namesOk_2 fu Ac Ab)) fun Ae=>bif Ae then some (false) else d_impl_namesOk_J1 fu k4 Aa else obind (d_impl_MasterOf fu r1) fun Ag=>bif Ag.2 then obind (d_slices_ContainsFunc_impl_Pair_impl_Pair fu r1.fPairs (fun Af=>d_impl_namesOk_3 fu Af r1)) fun Ad=>some (!Ad) else some (false)
def d_impl_namesOk_L1 (fu:Nat)  (r1:Request):Nat → Int → Option (Bool)
  | 0=>fun _=>none
  | n + 1=>d_impl_namesOk_L1_B fu r1 (d_impl_namesOk_L1 fu r1 n)

def d_impl_namesOk_L2_B (fu:Nat)  (r1:Request) (k1:Int → Option (Bool)) (Aa:Int):Option (Bool) :=
  bif (decide (Aa < ((r1.fTypes.length:Int)))) then obind (ix r1.fTypes Aa) fun Ac=>obind (sls r1.fTypes 0 Aa) fun Ad=>obind (d_slices_ContainsFunc_impl_Type_impl_Type fu Ad (fun Ae=>d_impl_namesOk_1 fu Ae Ac)) fun Ab=>bif Ab then some (false) else k1 (w64 (Aa + 1)) else d_impl_namesOk_L1 fu r1 fu 0
def d_impl_namesOk_L2 (fu:Nat)  (r1:Request):Nat → Int → Option (Bool)
  | 0=>fun _=>none
  | n + 1=>d_impl_namesOk_L2_B fu r1 (d_impl_namesOk_L2 fu r1 n)

def d_impl_namesOk (fu:Nat) (r1:Request):Option (Bool) :=
  d_impl_namesOk_L2 fu r1 fu 0

def d_slices_Index_impl_Pair_impl_Pair_L1_B (fu:Nat)  (Ab:List Pair) (v5:Pair) (k1:Int → Option (Int)) (Aa:Int):Option (Int) :=
  bif (decide (Aa < ((Ab.length:Int)))) then obind (ix Ab Aa) fun Ac=>bif (decide (v5 = Ac)) then some (Aa) else k1 (w64 (Aa + 1)) else some ((-1))
def d_slices_Index_impl_Pair_impl_Pair_L1 (fu:Nat)  (Aa:List Pair) (v5:Pair):Nat → Int → Option (Int)
  | 0=>fun _=>none
  | n + 1=>d_slices_Index_impl_Pair_impl_Pair_L1_B fu Aa v5 (d_slices_Index_impl_Pair_impl_Pair_L1 fu Aa v5 n)

def d_slices_Index_impl_Pair_impl_Pair (fu:Nat) (Aa:List Pair) (v5:Pair):Option (Int) :=
  d_slices_Index_impl_Pair_impl_Pair_L1 fu Aa v5 fu 0

def d_slices_Contains_impl_Pair_impl_Pair (fu:Nat) (Aa:List Pair) (v5:Pair):Option (Bool) :=
  obind (d_slices_Index_impl_Pair_impl_Pair fu Aa v5) fun Ab=>some (decide (Ab ≥ 0))

def d_impl_Beside (fu:Nat) (Aa:List Pair) (a5:Int) (b6:Int):Option (Bool) :=
  obind (d_slices_Contains_impl_Pair_impl_Pair fu Aa ((⟨a5,b6⟩:Pair))) fun x7=>some (x7)

def d_impl_TableOk_L1_B (fu:Nat) (k3:Int → Option (Bool)) (Ac:List Pair) (Ae:Int) (Ab:Int) (k4:Int → Option (Bool)) (Aa:Int):Option (Bool) :=
  bif (decide (Aa < Ae)) then obind (d_impl_Beside fu Ac Ab Aa) fun Af=>obind (d_impl_Beside fu Ac Aa Ab) fun Ad=>bif (!(Af == Ad)) then some (false) else k4 (w64 (Aa + 1)) else k3 (w64 (Ab + 1))
def d_impl_TableOk_L1 (fu:Nat) (k3:Int → Option (Bool)) (Ab:List Pair) (Ac:Int) (Aa:Int):Nat → Int → Option (Bool)
  | 0=>fun _=>none
  | n + 1=>d_impl_TableOk_L1_B fu k3 Ab Ac Aa (d_impl_TableOk_L1 fu k3 Ab Ac Aa n)

def d_impl_TableOk_L2_B (fu:Nat)  (Ab:List Pair) (Ac:Int) (k3:Int → Option (Bool)) (Aa:Int):Option (Bool) :=
  bif (decide (Aa < Ac)) then obind (d_impl_Beside fu Ab Aa Aa) fun Ad=>bif (!Ad) then some (false) else d_impl_TableOk_L1 fu k3 Ab Ac Aa fu 0 else some (true)
def d_impl_TableOk_L2 (fu:Nat)  (Aa:List Pair) (Ab:Int):Nat → Int → Option (Bool)
  | 0=>fun _=>none
  | n + 1=>d_impl_TableOk_L2_B fu Aa Ab (d_impl_TableOk_L2 fu Aa Ab n)

def d_impl_TableOk (fu:Nat) (Ab:List Pair) (Aa:Int):Option (Bool) :=
  obind (d_impl_in fu Aa 1 4) fun x6=>bif (!x6) then some (false) else d_impl_TableOk_L2 fu Ab Aa fu 0

def d_slices_Sort_int_int (fu:Nat) (x1:List Int):Option (List Int):=sortI x1

def d_impl_Fits_J1 (fu:Nat) (x1:Item) (t2:Typ) (Ag:List Int) (Ai:List Int):Option (Bool) :=
  obind (d_slices_Sort_int_int fu Ag) fun Aa=>obind (d_slices_Sort_int_int fu Ai) fun Ab=>obind (ix Aa 0) fun Ad=>obind (ix Ab 0) fun Ah=>bif (decide (Ad ≤ Ah)) then obind (ix Aa 1) fun Aj=>obind (ix Ab 1) fun Ae=>bif (decide (Aj ≤ Ae)) then obind (ix Aa 2) fun Ac=>obind (ix Ab 2) fun Af=>bif (decide (Ac ≤ Af)) then some (decide (x1.fGram ≤ t2.fGram)) else some (false) else some (false) else some (false)

def d_impl_Fits (fu:Nat) (x1:Item) (t2:Typ):Option (Bool) :=
  d_impl_Fits_J1 fu x1 t2 (([x1.fW,x1.fH,x1.fD]:List Int)) (([t2.fW,t2.fH,t2.fD]:List Int))

def d_impl_Class_1 (fu:Nat) (x1:Item) (x2:Typ):Option (Bool) :=
  obind (d_impl_Fits fu x1 x2) fun x8=>some (!x8)

def d_impl_Class_2 (fu:Nat) (t1:Typ) (x2:Pallet):Option (Bool) :=
  bif (decide (t1.fW > x2.fW)) then some (true) else bif (decide (t1.fD > x2.fD)) then some (true) else bif (decide (t1.fH > x2.fH)) then some (true) else some (decide ((w64 (t1.fTare + t1.fGram)) > x2.fGram))

def d_impl_Class (fu:Nat) (r1:Request):Option (Int) :=
  obind (d_impl_MasterOf fu r1) fun Ab=>obind (d_impl_BoundsOk fu r1) fun Ah=>bif (!Ah) then some (2) else obind (d_impl_namesOk fu r1) fun Ac=>bif (!Ac) then some (3) else obind (d_impl_TableOk fu r1.fPairs r1.fClasses) fun Ad=>bif (!Ad) then some (4) else obind (d_slices_ContainsFunc_impl_Item_impl_Item fu r1.fItems (fun Af=>d_impl_Class_1 fu Af Ab.1)) fun Ae=>bif Ae then some (5) else obind (d_slices_ContainsFunc_impl_Type_impl_Type fu r1.fTypes (fun Ag=>d_impl_Class_2 fu Ag r1.fPallet)) fun Aa=>bif Aa then some (6) else some (0)

def d_impl_sound (fu:Nat) (r1:Request):Option (Bool) :=
  obind (d_impl_Class fu r1) fun Aa=>some (Aa == 0)

def d_bits_Mul64 (fu:Nat) (x1:Int) (y2:Int):Option (Int × Int) :=
  some (IntKind.wrap .u64 ((IntKind.wrap .u64 ((IntKind.wrap .u64 ((Int.fdiv x1 (2 ^ (min 32 (IntKind.bits .u64)))) * (Int.fdiv y2 (2 ^ (min 32 (IntKind.bits .u64)))))) + (Int.fdiv (IntKind.wrap .u64 ((IntKind.wrap .u64 ((Int.fdiv x1 (2 ^ (min 32 (IntKind.bits .u64)))) * (IntKind.wrap .u64 (((BitVec.ofInt (IntKind.bits .u64) y2 &&& BitVec.ofInt (IntKind.bits .u64) 4294967295).toNat:Nat):Int)))) + (Int.fdiv (IntKind.wrap .u64 ((IntKind.wrap .u64 (((BitVec.ofInt (IntKind.bits .u64) x1 &&& BitVec.ofInt (IntKind.bits .u64) 4294967295).toNat:Nat):Int)) * (IntKind.wrap .u64 (((BitVec.ofInt (IntKind.bits .u64) y2 &&& BitVec.ofInt (IntKind.bits .u64) 4294967295).toNat:Nat):Int)))) (2 ^ (min 32 (IntKind.bits .u64)))))) (2 ^ (min 32 (IntKind.bits .u64)))))) + (Int.fdiv (IntKind.wrap .u64 ((IntKind.wrap .u64 (((BitVec.ofInt (IntKind.bits .u64) (IntKind.wrap .u64 ((IntKind.wrap .u64 ((Int.fdiv x1 (2 ^ (min 32 (IntKind.bits .u64)))) * (IntKind.wrap .u64 (((BitVec.ofInt (IntKind.bits .u64) y2 &&& BitVec.ofInt (IntKind.bits .u64) 4294967295).toNat:Nat):Int)))) + (Int.fdiv (IntKind.wrap .u64 ((IntKind.wrap .u64 (((BitVec.ofInt (IntKind.bits .u64) x1 &&& BitVec.ofInt (IntKind.bits .u64) 4294967295).toNat:Nat):Int)) * (IntKind.wrap .u64 (((BitVec.ofInt (IntKind.bits .u64) y2 &&& BitVec.ofInt (IntKind.bits .u64) 4294967295).toNat:Nat):Int)))) (2 ^ (min 32 (IntKind.bits .u64)))))) &&& BitVec.ofInt (IntKind.bits .u64) 4294967295).toNat:Nat):Int)) + (IntKind.wrap .u64 ((IntKind.wrap .u64 (((BitVec.ofInt (IntKind.bits .u64) x1 &&& BitVec.ofInt (IntKind.bits .u64) 4294967295).toNat:Nat):Int)) * (Int.fdiv y2 (2 ^ (min 32 (IntKind.bits .u64)))))))) (2 ^ (min 32 (IntKind.bits .u64))))),IntKind.wrap .u64 (x1 * y2))

def d_bits_Mul (fu:Nat) (x1:Int) (y2:Int):Option (Int × Int) :=
  obind (d_bits_Mul64 fu x1 y2) fun x3=>some (x3.1,x3.2)

def d_slices_Repeat_int_int_L1_B (fu:Nat)   (k3:List Int → Int → Option ((List Int))) (Aa:List Int) (Ab:Int):Option ((List Int)) :=
  bif (decide (Ab < ((Aa.length:Int)))) then obind (sls Aa Ab (Aa.length:Int)) fun Ad=>obind (sls Aa 0 Ab) fun Ac=>k3 (cpd Aa Ab Ac) (w64 (Ab + (cpn Aa Ab Ac))) else some (Aa)
def d_slices_Repeat_int_int_L1 (fu:Nat)   : Nat → List Int → Int → Option ((List Int))
  | 0=>fun _ _=>none
  | n + 1=>d_slices_Repeat_int_int_L1_B fu  (d_slices_Repeat_int_int_L1 fu  n)

def d_slices_Repeat_int_int_J1 (fu:Nat) (x1:List Int) (x8:Int × Int)  : Option ((List Int)) :=
  obind (mk 8 (0:Int) (w64 x8.2)) fun Aa=>d_slices_Repeat_int_int_L1 fu fu (cpd Aa 0 x1) (cpn Aa 0 x1)

def d_slices_Repeat_int_int_J2 (fu:Nat) (x1:List Int) (Aa:Int)  : Option ((List Int)) :=
  obind (d_bits_Mul fu (IntKind.wrap .u64 ((x1.length:Int))) (IntKind.wrap .u64 Aa)) fun x8=>bif (decide (x8.1 > 0)) then none else bif (decide (x8.2 > 9223372036854775807)) then none else d_slices_Repeat_int_int_J1 fu x1 x8

def d_slices_Repeat_int_int (fu:Nat) (x1:List Int) (Aa:Int):Option ((List Int)) :=
  bif (decide (Aa < 0)) then none else d_slices_Repeat_int_int_J2 fu x1 Aa

def d_impl_Units_L1_B (fu:Nat)  (r1:Request) (k1:List Int → Int → Option ((List Int))) (Ab:List Int) (Aa:Int):Option ((List Int)) :=
  bif (decide (Aa < ((r1.fItems.length:Int)))) then obind (ix r1.fItems Aa) fun Ad=>obind (d_slices_Repeat_int_int fu (([Aa]:List Int)) Ad.fCount) fun Ac=>obind (apnd 8 Ab Ac) fun Ae=>k1 Ae (w64 (Aa + 1)) else some (Ab)
def d_impl_Units_L1 (fu:Nat)  (r1:Request):Nat → List Int → Int → Option ((List Int))
  | 0=>fun _ _=>none
  | n + 1=>d_impl_Units_L1_B fu r1 (d_impl_Units_L1 fu r1 n)

def d_impl_Units (fu:Nat) (r1:Request):Option ((List Int)) :=
  obind (d_impl_sound fu r1) fun Aa=>bif (!Aa) then some (([]:List Int)) else d_impl_Units_L1 fu r1 fu (([]:List Int)) 0

def d_impl_OneEach_L1_B (fu:Nat)  (Ac:(List Int)) (k1:List (List Int) → Int → Option ((List (List Int)))) (Ab:List (List Int)) (Aa:Int):Option ((List (List Int))) :=
  bif (decide (Aa < ((Ac.length:Int)))) then obind (apnd 24 Ab [([Aa]:List Int)]) fun Ad=>k1 Ad (w64 (Aa + 1)) else some (Ab)
def d_impl_OneEach_L1 (fu:Nat)  (Aa:(List Int)):Nat → List (List Int) → Int → Option ((List (List Int)))
  | 0=>fun _ _=>none
  | n + 1=>d_impl_OneEach_L1_B fu Aa (d_impl_OneEach_L1 fu Aa n)

def d_impl_OneEach (fu:Nat) (r1:Request):Option ((List (List Int))) :=
  obind (d_impl_Units fu r1) fun Aa=>d_impl_OneEach_L1 fu Aa fu (([]:List (List Int))) 0

def d_laws_eqIntS_L1_B (fu:Nat)  (a1:List Int) (b5:List Int) (k1:Int → Option (Bool)) (Aa:Int):Option (Bool) :=
  bif (decide (Aa < ((a1.length:Int)))) then obind (ix a1 Aa) fun Ab=>obind (ix b5 Aa) fun Ac=>bif (Ab != Ac) then some (false) else k1 (w64 (Aa + 1)) else some (true)
def d_laws_eqIntS_L1 (fu:Nat)  (a1:List Int) (b5:List Int):Nat → Int → Option (Bool)
  | 0=>fun _=>none
  | n + 1=>d_laws_eqIntS_L1_B fu a1 b5 (d_laws_eqIntS_L1 fu a1 b5 n)

def d_laws_eqIntS (fu:Nat) (a1:List Int) (b5:List Int):Option (Bool) :=
  bif (((a1.length:Int)) != ((b5.length:Int))) then some (false) else d_laws_eqIntS_L1 fu a1 b5 fu 0

def d_laws_eqIntSS_L1_B (fu:Nat)  (a1:List (List Int)) (b5:List (List Int)) (k1:Int → Option (Bool)) (Aa:Int):Option (Bool) :=
  bif (decide (Aa < ((a1.length:Int)))) then obind (ix a1 Aa) fun Ac=>obind (ix b5 Aa) fun Ad=>obind (d_laws_eqIntS fu Ac Ad) fun Ab=>bif (!Ab) then some (false) else k1 (w64 (Aa + 1)) else some (true)
def d_laws_eqIntSS_L1 (fu:Nat)  (a1:List (List Int)) (b5:List (List Int)):Nat → Int → Option (Bool)
  | 0=>fun _=>none
  | n + 1=>d_laws_eqIntSS_L1_B fu a1 b5 (d_laws_eqIntSS_L1 fu a1 b5 n)

def d_laws_eqIntSS (fu:Nat) (a1:List (List Int)) (b5:List (List Int)):Option (Bool) :=
  bif (((a1.length:Int)) != ((b5.length:Int))) then some (false) else d_laws_eqIntSS_L1 fu a1 b5 fu 0

def d_laws_eqPallet (fu:Nat) (a1:Pallet) (b2:Pallet):Option (Bool) :=
  bif (a1.fW != b2.fW) then some (false) else bif (a1.fD != b2.fD) then some (false) else bif (a1.fH != b2.fH) then some (false) else bif (a1.fGram != b2.fGram) then some (false) else some (true)

def d_laws_eqPair (fu:Nat) (a1:Pair) (b2:Pair):Option (Bool) :=
  bif (a1.fA != b2.fA) then some (false) else bif (a1.fB != b2.fB) then some (false) else some (true)

def d_laws_eqPairS_L1_B (fu:Nat)  (a1:List Pair) (b5:List Pair) (k1:Int → Option (Bool)) (Aa:Int):Option (Bool) :=
  bif (decide (Aa < ((a1.length:Int)))) then obind (ix a1 Aa) fun Ac=>obind (ix b5 Aa) fun Ad=>obind (d_laws_eqPair fu Ac Ad) fun Ab=>bif (!Ab) then some (false) else k1 (w64 (Aa + 1)) else some (true)
def d_laws_eqPairS_L1 (fu:Nat)  (a1:List Pair) (b5:List Pair):Nat → Int → Option (Bool)
  | 0=>fun _=>none
  | n + 1=>d_laws_eqPairS_L1_B fu a1 b5 (d_laws_eqPairS_L1 fu a1 b5 n)

def d_laws_eqPairS (fu:Nat) (a1:List Pair) (b5:List Pair):Option (Bool) :=
  bif (((a1.length:Int)) != ((b5.length:Int))) then some (false) else d_laws_eqPairS_L1 fu a1 b5 fu 0

def d_laws_eqType (fu:Nat) (a1:Typ) (b2:Typ):Option (Bool) :=
  bif (a1.fId != b2.fId) then some (false) else bif (a1.fW != b2.fW) then some (false) else bif (a1.fH != b2.fH) then some (false) else bif (a1.fD != b2.fD) then some (false) else bif (a1.fTare != b2.fTare) then some (false) else bif (a1.fGram != b2.fGram) then some (false) else bif (a1.fCost != b2.fCost) then some (false) else some (true)

def d_laws_eqTypeS_L1_B (fu:Nat)  (a1:List Typ) (b5:List Typ) (k1:Int → Option (Bool)) (Aa:Int):Option (Bool) :=
  bif (decide (Aa < ((a1.length:Int)))) then obind (ix a1 Aa) fun Ac=>obind (ix b5 Aa) fun Ad=>obind (d_laws_eqType fu Ac Ad) fun Ab=>bif (!Ab) then some (false) else k1 (w64 (Aa + 1)) else some (true)
def d_laws_eqTypeS_L1 (fu:Nat)  (a1:List Typ) (b5:List Typ):Nat → Int → Option (Bool)
  | 0=>fun _=>none
  | n + 1=>d_laws_eqTypeS_L1_B fu a1 b5 (d_laws_eqTypeS_L1 fu a1 b5 n)

def d_laws_eqTypeS (fu:Nat) (a1:List Typ) (b5:List Typ):Option (Bool) :=
  bif (((a1.length:Int)) != ((b5.length:Int))) then some (false) else d_laws_eqTypeS_L1 fu a1 b5 fu 0

def d_laws_eqItem (fu:Nat) (a1:Item) (b2:Item):Option (Bool) :=
  bif (a1.fId != b2.fId) then some (false) else bif (a1.fW != b2.fW) then some (false) else bif (a1.fH != b2.fH) then some (false) else bif (a1.fD != b2.fD) then some (false) else bif (a1.fGram != b2.fGram) then some (false) else bif (a1.fClass != b2.fClass) then some (false) else bif (a1.fCount != b2.fCount) then some (false) else some (true)

def d_laws_eqItemS_L1_B (fu:Nat)  (a1:List Item) (b5:List Item) (k1:Int → Option (Bool)) (Aa:Int):Option (Bool) :=
  bif (decide (Aa < ((a1.length:Int)))) then obind (ix a1 Aa) fun Ac=>obind (ix b5 Aa) fun Ad=>obind (d_laws_eqItem fu Ac Ad) fun Ab=>bif (!Ab) then some (false) else k1 (w64 (Aa + 1)) else some (true)
def d_laws_eqItemS_L1 (fu:Nat)  (a1:List Item) (b5:List Item):Nat → Int → Option (Bool)
  | 0=>fun _=>none
  | n + 1=>d_laws_eqItemS_L1_B fu a1 b5 (d_laws_eqItemS_L1 fu a1 b5 n)

def d_laws_eqItemS (fu:Nat) (a1:List Item) (b5:List Item):Option (Bool) :=
  bif (((a1.length:Int)) != ((b5.length:Int))) then some (false) else d_laws_eqItemS_L1 fu a1 b5 fu 0

def d_laws_eqRequest (fu:Nat) (a1:Request) (b5:Request):Option (Bool) :=
  bif (a1.fWay != b5.fWay) then some (false) else obind (d_laws_eqPallet fu a1.fPallet b5.fPallet) fun Ad=>bif (!Ad) then some (false) else bif (a1.fClasses != b5.fClasses) then some (false) else obind (d_laws_eqPairS fu a1.fPairs b5.fPairs) fun Ab=>bif (!Ab) then some (false) else obind (d_laws_eqTypeS fu a1.fTypes b5.fTypes) fun Ac=>bif (!Ac) then some (false) else bif (a1.fMaster != b5.fMaster) then some (false) else obind (d_laws_eqItemS fu a1.fItems b5.fItems) fun Aa=>bif (!Aa) then some (false) else some (true)

def d_laws_markPairS_L1_B (fu:Nat)   (k1:List Pair → Int → Int → Option (Int × (List Pair))) (Ab:List Pair) (Ac:Int) (Aa:Int):Option (Int × (List Pair)) :=
  bif (decide (Aa < ((Ab.length:Int)))) then obind (ix Ab Aa) fun Ad=>obind (ix (setx Ab Aa ({ Ad with fA:=Ac })) Aa) fun Ae=>k1 (setx (setx Ab Aa ({ Ad with fA:=Ac })) Aa ({ Ae with fB:=w64 (Ac + 1) })) (w64 ((w64 (Ac + 1)) + 1)) (w64 (Aa + 1)) else some (Ac,Ab)
def d_laws_markPairS_L1 (fu:Nat)   : Nat → List Pair → Int → Int → Option (Int × (List Pair))
  | 0=>fun _ _ _=>none
  | n + 1=>d_laws_markPairS_L1_B fu  (d_laws_markPairS_L1 fu  n)

def d_laws_markPairS (fu:Nat) (a1:List Pair) (Aa:Int):Option (Int × (List Pair)) :=
  d_laws_markPairS_L1 fu fu a1 Aa 0

def d_laws_markTypeS_L1_B (fu:Nat)   (k1:List Typ → Int → Int → Option (Int × (List Typ))) (Ac:List Typ) (Ab:Int) (Aa:Int):Option (Int × (List Typ)) :=
  bif (decide (Aa < ((Ac.length:Int)))) then obind (ix Ac Aa) fun Ad=>obind (ix (setx Ac Aa ({ Ad with fId:=Ab })) Aa) fun Ae=>obind (ix (setx (setx Ac Aa ({ Ad with fId:=Ab })) Aa ({ Ae with fW:=w64 (Ab + 1) })) Aa) fun Af=>obind (ix (setx (setx (setx Ac Aa ({ Ad with fId:=Ab })) Aa ({ Ae with fW:=w64 (Ab + 1) })) Aa ({ Af with fH:=w64 ((w64 (Ab + 1)) + 1) })) Aa) fun Ag=>obind (ix (setx (setx (setx (setx Ac Aa ({ Ad with fId:=Ab })) Aa ({ Ae with fW:=w64 (Ab + 1) })) Aa ({ Af with fH:=w64 ((w64 (Ab + 1)) + 1) })) Aa ({ Ag with fD:=w64 ((w64 ((w64 (Ab + 1)) + 1)) + 1) })) Aa) fun Ah=>obind (ix (setx (setx (setx (setx (setx Ac Aa ({ Ad with fId:=Ab })) Aa ({ Ae with fW:=w64 (Ab + 1) })) Aa ({ Af with fH:=w64 ((w64 (Ab + 1)) + 1) })) Aa ({ Ag with fD:=w64 ((w64 ((w64 (Ab + 1)) + 1)) + 1) })) Aa ({ Ah with fTare:=w64 ((w64 ((w64 ((w64 (Ab + 1)) + 1)) + 1)) + 1) })) Aa) fun Ai=>obind (ix (setx (setx (setx (setx (setx (setx Ac Aa ({ Ad with fId:=Ab })) Aa ({ Ae with fW:=w64 (Ab + 1) })) Aa ({ Af with fH:=w64 ((w64 (Ab + 1)) + 1) })) Aa ({ Ag with fD:=w64 ((w64 ((w64 (Ab + 1)) + 1)) + 1) })) Aa ({ Ah with fTare:=w64 ((w64 ((w64 ((w64 (Ab + 1)) + 1)) + 1)) + 1) })) Aa ({ Ai with fGram:=w64 ((w64 ((w64 ((w64 ((w64 (Ab + 1)) + 1)) + 1)) + 1)) + 1) })) Aa) fun Aj=>k1 (setx (setx (setx (setx (setx (setx (setx Ac Aa ({ Ad with fId:=Ab })) Aa ({ Ae with fW:=w64 (Ab + 1) })) Aa ({ Af with fH:=w64 ((w64 (Ab + 1)) + 1) })) Aa ({ Ag with fD:=w64 ((w64 ((w64 (Ab + 1)) + 1)) + 1) })) Aa ({ Ah with fTare:=w64 ((w64 ((w64 ((w64 (Ab + 1)) + 1)) + 1)) + 1) })) Aa ({ Ai with fGram:=w64 ((w64 ((w64 ((w64 ((w64 (Ab + 1)) + 1)) + 1)) + 1)) + 1) })) Aa ({ Aj with fCost:=w64 ((w64 ((w64 ((w64 ((w64 ((w64 (Ab + 1)) + 1)) + 1)) + 1)) + 1)) + 1) })) (w64 ((w64 ((w64 ((w64 ((w64 ((w64 ((w64 (Ab + 1)) + 1)) + 1)) + 1)) + 1)) + 1)) + 1)) (w64 (Aa + 1)) else some (Ab,Ac)
def d_laws_markTypeS_L1 (fu:Nat)   : Nat → List Typ → Int → Int → Option (Int × (List Typ))
  | 0=>fun _ _ _=>none
  | n + 1=>d_laws_markTypeS_L1_B fu  (d_laws_markTypeS_L1 fu  n)

def d_laws_markTypeS (fu:Nat) (a1:List Typ) (Aa:Int):Option (Int × (List Typ)) :=
  d_laws_markTypeS_L1 fu fu a1 Aa 0

def d_laws_markItemS_L1_B (fu:Nat)   (k1:List Item → Int → Int → Option (Int × (List Item))) (Ac:List Item) (Ab:Int) (Aa:Int):Option (Int × (List Item)) :=
  bif (decide (Aa < ((Ac.length:Int)))) then obind (ix Ac Aa) fun Ad=>obind (ix (setx Ac Aa ({ Ad with fId:=Ab })) Aa) fun Ae=>obind (ix (setx (setx Ac Aa ({ Ad with fId:=Ab })) Aa ({ Ae with fW:=w64 (Ab + 1) })) Aa) fun Af=>obind (ix (setx (setx (setx Ac Aa ({ Ad with fId:=Ab })) Aa ({ Ae with fW:=w64 (Ab + 1) })) Aa ({ Af with fH:=w64 ((w64 (Ab + 1)) + 1) })) Aa) fun Ag=>obind (ix (setx (setx (setx (setx Ac Aa ({ Ad with fId:=Ab })) Aa ({ Ae with fW:=w64 (Ab + 1) })) Aa ({ Af with fH:=w64 ((w64 (Ab + 1)) + 1) })) Aa ({ Ag with fD:=w64 ((w64 ((w64 (Ab + 1)) + 1)) + 1) })) Aa) fun Ah=>obind (ix (setx (setx (setx (setx (setx Ac Aa ({ Ad with fId:=Ab })) Aa ({ Ae with fW:=w64 (Ab + 1) })) Aa ({ Af with fH:=w64 ((w64 (Ab + 1)) + 1) })) Aa ({ Ag with fD:=w64 ((w64 ((w64 (Ab + 1)) + 1)) + 1) })) Aa ({ Ah with fGram:=w64 ((w64 ((w64 ((w64 (Ab + 1)) + 1)) + 1)) + 1) })) Aa) fun Ai=>obind (ix (setx (setx (setx (setx (setx (setx Ac Aa ({ Ad with fId:=Ab })) Aa ({ Ae with fW:=w64 (Ab + 1) })) Aa ({ Af with fH:=w64 ((w64 (Ab + 1)) + 1) })) Aa ({ Ag with fD:=w64 ((w64 ((w64 (Ab + 1)) + 1)) + 1) })) Aa ({ Ah with fGram:=w64 ((w64 ((w64 ((w64 (Ab + 1)) + 1)) + 1)) + 1) })) Aa ({ Ai with fClass:=w64 ((w64 ((w64 ((w64 ((w64 (Ab + 1)) + 1)) + 1)) + 1)) + 1) })) Aa) fun Aj=>k1 (setx (setx (setx (setx (setx (setx (setx Ac Aa ({ Ad with fId:=Ab })) Aa ({ Ae with fW:=w64 (Ab + 1) })) Aa ({ Af with fH:=w64 ((w64 (Ab + 1)) + 1) })) Aa ({ Ag with fD:=w64 ((w64 ((w64 (Ab + 1)) + 1)) + 1) })) Aa ({ Ah with fGram:=w64 ((w64 ((w64 ((w64 (Ab + 1)) + 1)) + 1)) + 1) })) Aa ({ Ai with fClass:=w64 ((w64 ((w64 ((w64 ((w64 (Ab + 1)) + 1)) + 1)) + 1)) + 1) })) Aa ({ Aj with fCount:=w64 ((w64 ((w64 ((w64 ((w64 ((w64 (Ab + 1)) + 1)) + 1)) + 1)) + 1)) + 1) })) (w64 ((w64 ((w64 ((w64 ((w64 ((w64 ((w64 (Ab + 1)) + 1)) + 1)) + 1)) + 1)) + 1)) + 1)) (w64 (Aa + 1)) else some (Ab,Ac)
def d_laws_markItemS_L1 (fu:Nat)   : Nat → List Item → Int → Int → Option (Int × (List Item))
  | 0=>fun _ _ _=>none
  | n + 1=>d_laws_markItemS_L1_B fu  (d_laws_markItemS_L1 fu  n)

def d_laws_markItemS (fu:Nat) (a1:List Item) (Aa:Int):Option (Int × (List Item)) :=
  d_laws_markItemS_L1 fu fu a1 Aa 0

def d_laws_markRequest (fu:Nat) (a1:Request) (Ad:Int):Option (Int × Request) :=
  obind (d_laws_markPairS fu a1.fPairs Ad) fun Aa=>obind (d_laws_markTypeS fu a1.fTypes Aa.1) fun Ac=>obind (d_laws_markItemS fu a1.fItems Ac.1) fun Ab=>some (Ab.1,(⟨a1.fWay,a1.fPallet,a1.fClasses,Aa.2,Ac.2,a1.fMaster,Ab.2⟩:Request))

def d_laws_markIntS_L1_B (fu:Nat)   (k1:List Int → Int → Int → Option (Int × (List Int))) (Ab:List Int) (Ac:Int) (Aa:Int):Option (Int × (List Int)) :=
  bif (decide (Aa < ((Ab.length:Int)))) then obind (ix Ab Aa) fun Ad=>k1 (setx Ab Aa Ac) (w64 (Ac + 1)) (w64 (Aa + 1)) else some (Ac,Ab)
def d_laws_markIntS_L1 (fu:Nat)   : Nat → List Int → Int → Int → Option (Int × (List Int))
  | 0=>fun _ _ _=>none
  | n + 1=>d_laws_markIntS_L1_B fu  (d_laws_markIntS_L1 fu  n)

def d_laws_markIntS (fu:Nat) (a1:List Int) (Aa:Int):Option (Int × (List Int)) :=
  d_laws_markIntS_L1 fu fu a1 Aa 0

def d_laws_markIntSS_L1_B (fu:Nat)   (k1:List (List Int) → Int → Int → Option (Int × (List (List Int)))) (Ab:List (List Int)) (Ad:Int) (Aa:Int):Option (Int × (List (List Int))) :=
  bif (decide (Aa < ((Ab.length:Int)))) then obind (ix Ab Aa) fun Ae=>obind (d_laws_markIntS fu Ae Ad) fun Ac=>k1 (setx Ab Aa Ac.2) Ac.1 (w64 (Aa + 1)) else some (Ad,Ab)
def d_laws_markIntSS_L1 (fu:Nat)   : Nat → List (List Int) → Int → Int → Option (Int × (List (List Int)))
  | 0=>fun _ _ _=>none
  | n + 1=>d_laws_markIntSS_L1_B fu  (d_laws_markIntSS_L1 fu  n)

def d_laws_markIntSS (fu:Nat) (a1:List (List Int)) (Aa:Int):Option (Int × (List (List Int))) :=
  d_laws_markIntSS_L1 fu fu a1 Aa 0

def d_laws_heldIntS_L1_B (fu:Nat)  (a1:List Int) (k1:Int → Int → Option (Int)) (Aa:Int) (Ab:Int):Option (Int) :=
  bif (decide (Ab < ((a1.length:Int)))) then obind (ix a1 Ab) fun Ac=>bif (Ac != Aa) then some ((-1)) else k1 (w64 (Aa + 1)) (w64 (Ab + 1)) else some (Aa)
def d_laws_heldIntS_L1 (fu:Nat)  (a1:List Int):Nat → Int → Int → Option (Int)
  | 0=>fun _ _=>none
  | n + 1=>d_laws_heldIntS_L1_B fu a1 (d_laws_heldIntS_L1 fu a1 n)

def d_laws_heldIntS (fu:Nat) (a1:List Int) (Aa:Int):Option (Int) :=
  d_laws_heldIntS_L1 fu a1 fu Aa 0

def d_laws_heldIntSS_L1_B (fu:Nat)  (a1:List (List Int)) (k1:Int → Int → Option (Int)) (Ac:Int) (Aa:Int):Option (Int) :=
  bif (decide (Aa < ((a1.length:Int)))) then obind (ix a1 Aa) fun Ad=>obind (d_laws_heldIntS fu Ad Ac) fun Ab=>bif (decide (Ab < 0)) then some ((-1)) else k1 Ab (w64 (Aa + 1)) else some (Ac)
def d_laws_heldIntSS_L1 (fu:Nat)  (a1:List (List Int)):Nat → Int → Int → Option (Int)
  | 0=>fun _ _=>none
  | n + 1=>d_laws_heldIntSS_L1_B fu a1 (d_laws_heldIntSS_L1 fu a1 n)

def d_laws_heldIntSS (fu:Nat) (a1:List (List Int)) (Aa:Int):Option (Int) :=
  d_laws_heldIntSS_L1 fu a1 fu Aa 0

end Go.Proofs.YtcboeijpplllfaaGreat
