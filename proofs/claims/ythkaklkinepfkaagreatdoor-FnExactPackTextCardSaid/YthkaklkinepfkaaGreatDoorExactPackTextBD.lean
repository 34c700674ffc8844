/- FnExactPackText: what the functions that it reaches compute,on plain data. Printed by gen.py. -/
import Derived.Test.YthkaklkinepfkaaGreatDoorS12
import Derived.Test.YthkaklkinepfkaaGreatDoorS15
set_option linter.unusedVariables false
namespace Go.Proofs.YthkaklkinepfkaaGreatDoor
open Go
def d_spec_Parts_J1 (fu:Nat) (k3:List ByteArray → Int → Int → Option ((List ByteArray))) (Aa:Int) (Ab:List ByteArray) (Ac:Int):Option ((List ByteArray)) :=
  k3 Ab Ac (w64 (Aa + 1))

def d_spec_Parts_L1_B (fu:Nat)  (Ab:ByteArray) (Ae:Int) (k3:List ByteArray → Int → Int → Option ((List ByteArray))) (Ac:List ByteArray) (Ad:Int) (Aa:Int):Option ((List ByteArray)) :=
  bif (decide (Aa ≤ ((Ab.size:Int)))) then bif (Aa == ((Ab.size:Int))) then obind (ssl Ab Ad Aa) fun Ai=>obind (apnd 16 Ac (([Ai]:List ByteArray))) fun Ag=>d_spec_Parts_J1 fu k3 Aa Ag (w64 (Aa + 1)) else obind (sx Ab Aa) fun Aj=>bif (Aj == Ae) then obind (ssl Ab Ad Aa) fun Ah=>obind (apnd 16 Ac (([Ah]:List ByteArray))) fun Af=>d_spec_Parts_J1 fu k3 Aa Af (w64 (Aa + 1)) else d_spec_Parts_J1 fu k3 Aa Ac Ad else some (Ac)
def d_spec_Parts_L1 (fu:Nat)  (Ab:ByteArray) (Aa:Int):Nat → List ByteArray → Int → Int → Option ((List ByteArray))
  | 0=>fun _ _ _=>none
  | n + 1=>d_spec_Parts_L1_B fu Ab Aa (d_spec_Parts_L1 fu Ab Aa n)

def d_spec_Parts (fu:Nat) (Ab:ByteArray) (Aa:Int):Option ((List ByteArray)) :=
  d_spec_Parts_L1 fu Ab Aa fu (([]:List ByteArray)) 0 0

def d_spec_Digits_J1 (fu:Nat) (k3:Int → ByteArray → Option (ByteArray)) (Ab:Int) (Ad:ByteArray) (Ac:Int):Option (ByteArray) :=
  obind (bstr (([(⟨w8 (w64 (48 + Ac))⟩:U8)]:List U8))) fun Aa=>obind (scat Aa Ad) fun Ae=>k3 (w64 (Int.tdiv Ab 10)) Ae

def d_spec_Digits_L1_B (fu:Nat)  (n1:Int) (k3:Int → ByteArray → Option (ByteArray)) (Aa:Int) (Ab:ByteArray):Option (ByteArray) :=
  bif (Aa != 0) then bif (decide ((Int.tmod Aa 10) < 0)) then d_spec_Digits_J1 fu k3 Aa Ab (w64 (0 - (Int.tmod Aa 10))) else d_spec_Digits_J1 fu k3 Aa Ab (Int.tmod Aa 10) else bif (decide (n1 < 0)) then obind (scat ((⟨#[45]⟩:ByteArray)) Ab) fun Ac=>some (Ac) else some (Ab)
def d_spec_Digits_L1 (fu:Nat)  (n1:Int):Nat → Int → ByteArray → Option (ByteArray)
  | 0=>fun _ _=>none
  | n + 1=>d_spec_Digits_L1_B fu n1 (d_spec_Digits_L1 fu n1 n)

def d_spec_Digits (fu:Nat) (n1:Int):Option (ByteArray) :=
  bif (n1 == 0) then some ((⟨#[48]⟩:ByteArray)) else d_spec_Digits_L1 fu n1 fu n1 ((⟨#[]⟩:ByteArray))

def d_spec_Number_J1 (fu:Nat) (k8:Int → Int → Option (Int × Bool)) (Ab:Int) (Aa:Int):Option (Int × Bool) :=
  k8 Aa (w64 (Ab + 1))

def d_spec_Number_J2 (fu:Nat) (k8:Int → Int → Option (Int × Bool)) (Ab:ByteArray) (Ad:Int) (Aa:Int)  : Option (Int × Bool) :=
  obind (sx Ab Aa) fun Ac=>d_spec_Number_J1 fu k8 Aa (w64 ((w64 ((w64 (10 * Ad)) + (w64 Ac))) - 48))

def d_spec_Number_L1_B (fu:Nat)  (Aa:ByteArray) (k8:Int → Int → Option (Int × Bool)) (Ac:Int) (Ab:Int):Option (Int × Bool) :=
  bif (decide (Ab < ((Aa.size:Int)))) then obind (sx Aa Ab) fun Ae=>bif (decide (Ae < 48)) then some (0,false) else obind (sx Aa Ab) fun Ad=>bif (decide (Ad > 57)) then some (0,false) else d_spec_Number_J2 fu k8 Aa Ac Ab else obind (d_spec_Digits fu Ac) fun Af=>bif (!(Af.toList == Aa.toList)) then some (0,false) else some (Ac,true)
def d_spec_Number_L1 (fu:Nat)  (Aa:ByteArray):Nat → Int → Int → Option (Int × Bool)
  | 0=>fun _ _=>none
  | n + 1=>d_spec_Number_L1_B fu Aa (d_spec_Number_L1 fu Aa n)

def d_spec_Number_J3 (fu:Nat) (Aa:ByteArray)  : Option (Int × Bool) :=
  d_spec_Number_L1 fu Aa fu 0 0

def d_spec_Number (fu:Nat) (Aa:ByteArray):Option (Int × Bool) :=
  bif (decide (((Aa.size:Int)) < 1)) then some (0,false) else bif (decide (((Aa.size:Int)) > 6)) then some (0,false) else d_spec_Number_J3 fu Aa

def d_spec_l4Nums_L1_B (fu:Nat)  (x4:(List ByteArray)) (k2:List Int → Int → Option ((List Int) × Bool)) (Ab:List Int) (Aa:Int):Option ((List Int) × Bool) :=
  bif (decide (Aa < ((x4.length:Int)))) then obind (ix x4 Aa) fun Ad=>obind (d_spec_Number fu Ad) fun Ac=>bif (!Ac.2) then some (([]:List Int),false) else obind (apnd 8 Ab (([Ac.1]:List Int))) fun Ae=>k2 Ae (w64 (Aa + 1)) else some (Ab,true)
def d_spec_l4Nums_L1 (fu:Nat)  (x4:(List ByteArray)):Nat → List Int → Int → Option ((List Int) × Bool)
  | 0=>fun _ _=>none
  | n + 1=>d_spec_l4Nums_L1_B fu x4 (d_spec_l4Nums_L1 fu x4 n)

def d_spec_l4Nums_J1 (fu:Nat) (x4:(List ByteArray))  : Option ((List Int) × Bool) :=
  d_spec_l4Nums_L1 fu x4 fu (([]:List Int)) 1

def d_spec_l4Nums (fu:Nat) (Ad:ByteArray) (Ac:ByteArray) (Aa:Int):Option ((List Int) × Bool) :=
  obind (d_spec_Parts fu Ad 32) fun x4=>obind (ix x4 0) fun Ab=>bif (!(Ab.toList == Ac.toList)) then some (([]:List Int),false) else bif (((x4.length:Int)) != (w64 (Aa + 1))) then some (([]:List Int),false) else d_spec_l4Nums_J1 fu x4

def d_spec_l4Line (fu:Nat) (Ac:List ByteArray) (Aa:Int) (Ad:ByteArray) (Af:Int):Option ((List Int) × Bool) :=
  bif (decide (Aa ≥ (w64 (((Ac.length:Int)) - 1)))) then some (([]:List Int),false) else obind (ix Ac Aa) fun Ae=>obind (d_spec_l4Nums fu Ae Ad Af) fun Ab=>some (Ab.1,Ab.2)

def d_spec_ReadOrder_L1_B (fu:Nat)  (x5:(List ByteArray)) (Am:Int) (Au:Int) (Ak:Int) (Ao:Int) (Ap:Int) (Af:Int) (Aq:List Pair) (Ae:List Typ) (As:Int) (k5:List Item → Int → List Int → Bool → Option (Request × Int)) (Ac:List Item) (Ab:Int) (Aa:List Int) (Aj:Bool):Option (Request × Int) :=
  bif Aj then obind (ix Aa 0) fun Aw=>obind (ix Aa 1) fun Ax=>obind (ix Aa 2) fun Ai=>obind (ix Aa 3) fun Ah=>obind (ix Aa 4) fun At=>obind (ix Aa 5) fun Ag=>obind (ix Aa 6) fun Av=>obind (apnd 56 Ac (([(⟨Aw,Ax,Ai,Ah,At,Ag,Av⟩:Item)]:List Item))) fun Al=>obind (d_spec_l4Line fu x5 (w64 (Ab + 1)) ((⟨#[105,116,101,109]⟩:ByteArray)) 7) fun Ad=>k5 Al (w64 (Ab + 1)) Ad.1 Ad.2 else bif (decide (Ab < (w64 (((x5.length:Int)) - 1)))) then some ((⟨0,(⟨0,0,0,0⟩:Pallet),0,[],[],0,[]⟩:Request),Ab) else obind (ix x5 (w64 (((x5.length:Int)) - 1))) fun Ar=>bif (!(Ar.toList == ((⟨#[]⟩:ByteArray)).toList)) then some ((⟨0,(⟨0,0,0,0⟩:Pallet),0,[],[],0,[]⟩:Request),Ab) else some ((⟨Am,(⟨Au,Ak,Ao,Ap⟩:Pallet),Af,Aq,Ae,As,Ac⟩:Request),(-1))
def d_spec_ReadOrder_L1 (fu:Nat)  (x5:(List ByteArray)) (Ah:Int) (Ae:Int) (Af:Int) (Ab:Int) (Aa:Int) (Ac:Int) (Ad:List Pair) (Ag:List Typ) (Ai:Int):Nat → List Item → Int → List Int → Bool → Option (Request × Int)
  | 0=>fun _ _ _ _=>none
  | n + 1=>d_spec_ReadOrder_L1_B fu x5 Ah Ae Af Ab Aa Ac Ad Ag Ai (d_spec_ReadOrder_L1 fu x5 Ah Ae Af Ab Aa Ac Ad Ag Ai n)

def d_spec_ReadOrder_L2_B (fu:Nat)  (x5:(List ByteArray)) (Ao:Int) (Ax:Int) (Ak:Int) (Ap:Int) (Aq:Int) (Aj:Int) (As:List Pair) (k4:List Typ → Int → List Int → Bool → Option (Request × Int)) (Ac:List Typ) (Ab:Int) (Aa:List Int) (At:Bool):Option (Request × Int) :=
  bif At then obind (ix Aa 0) fun Ar=>obind (ix Aa 1) fun Ah=>obind (ix Aa 2) fun Aw=>obind (ix Aa 3) fun Au=>obind (ix Aa 4) fun Ag=>obind (ix Aa 5) fun Am=>obind (ix Aa 6) fun Ai=>obind (apnd 56 Ac (([(⟨Ar,Ah,Aw,Au,Ag,Am,Ai⟩:Typ)]:List Typ))) fun Al=>obind (d_spec_l4Line fu x5 (w64 (Ab + 1)) ((⟨#[116,121,112,101]⟩:ByteArray)) 7) fun Af=>k4 Al (w64 (Ab + 1)) Af.1 Af.2 else obind (d_spec_l4Line fu x5 Ab ((⟨#[109,97,115,116,101,114]⟩:ByteArray)) 1) fun Ad=>bif (!Ad.2) then some ((⟨0,(⟨0,0,0,0⟩:Pallet),0,[],[],0,[]⟩:Request),Ab) else obind (ix Ad.1 0) fun Av=>obind (d_spec_l4Line fu x5 (w64 (Ab + 1)) ((⟨#[105,116,101,109]⟩:ByteArray)) 7) fun Ae=>d_spec_ReadOrder_L1 fu x5 Ao Ax Ak Ap Aq Aj As Ac Av fu (([]:List Item)) (w64 (Ab + 1)) Ae.1 Ae.2
def d_spec_ReadOrder_L2 (fu:Nat)  (x5:(List ByteArray)) (Ag:Int) (Ae:Int) (Af:Int) (Ab:Int) (Aa:Int) (Ac:Int) (Ad:List Pair):Nat → List Typ → Int → List Int → Bool → Option (Request × Int)
  | 0=>fun _ _ _ _=>none
  | n + 1=>d_spec_ReadOrder_L2_B fu x5 Ag Ae Af Ab Aa Ac Ad (d_spec_ReadOrder_L2 fu x5 Ag Ae Af Ab Aa Ac Ad n)

def d_spec_ReadOrder_L3_B (fu:Nat)  (x5:(List ByteArray)) (Ai:Int) (Aj:Int) (Ak:Int) (Af:Int) (Ag:Int) (Ah:Int) (k3:List Pair → Int → List Int → Bool → Option (Request × Int)) (Ad:List Pair) (Aa:Int) (Ae:List Int) (Am:Bool):Option (Request × Int) :=
  bif Am then obind (ix Ae 0) fun Al=>obind (ix Ae 1) fun Ap=>obind (apnd 16 Ad (([(⟨Al,Ap⟩:Pair)]:List Pair))) fun Ao=>obind (d_spec_l4Line fu x5 (w64 (Aa + 1)) ((⟨#[119,105,116,104]⟩:ByteArray)) 2) fun Ac=>k3 Ao (w64 (Aa + 1)) Ac.1 Ac.2 else obind (d_spec_l4Line fu x5 Aa ((⟨#[116,121,112,101]⟩:ByteArray)) 7) fun Ab=>d_spec_ReadOrder_L2 fu x5 Ai Aj Ak Af Ag Ah Ad fu (([]:List Typ)) Aa Ab.1 Ab.2
def d_spec_ReadOrder_L3 (fu:Nat)  (x5:(List ByteArray)) (Af:Int) (Ad:Int) (Ae:Int) (Ab:Int) (Aa:Int) (Ac:Int):Nat → List Pair → Int → List Int → Bool → Option (Request × Int)
  | 0=>fun _ _ _ _=>none
  | n + 1=>d_spec_ReadOrder_L3_B fu x5 Af Ad Ae Ab Aa Ac (d_spec_ReadOrder_L3 fu x5 Af Ad Ae Ab Aa Ac n)

def d_spec_ReadOrder_J1 (fu:Nat) (x5:(List ByteArray)) (Af:Int):Option (Request × Int) :=
  obind (d_spec_l4Line fu x5 1 ((⟨#[112,97,108,108,101,116]⟩:ByteArray)) 4) fun Aa=>bif (!Aa.2) then some ((⟨0,(⟨0,0,0,0⟩:Pallet),0,[],[],0,[]⟩:Request),1) else obind (ix Aa.1 0) fun Ag=>obind (ix Aa.1 1) fun Ah=>obind (ix Aa.1 2) fun Ad=>obind (ix Aa.1 3) fun Ae=>obind (d_spec_l4Line fu x5 2 ((⟨#[99,108,97,115,115,101,115]⟩:ByteArray)) 1) fun Ac=>bif (!Ac.2) then some ((⟨0,(⟨0,0,0,0⟩:Pallet),0,[],[],0,[]⟩:Request),2) else obind (ix Ac.1 0) fun Ai=>obind (d_spec_l4Line fu x5 3 ((⟨#[119,105,116,104]⟩:ByteArray)) 2) fun Ab=>d_spec_ReadOrder_L3 fu x5 Af Ag Ah Ad Ae Ai fu (([]:List Pair)) 3 Ab.1 Ab.2

def d_spec_ReadOrder_J2 (fu:Nat) (x5:(List ByteArray))  : Option (Request × Int) :=
  obind (ix x5 0) fun Aa=>bif (Aa.toList == ((⟨#[119,97,121,32,110,101,120,116]⟩:ByteArray)).toList) then d_spec_ReadOrder_J1 fu x5 1 else d_spec_ReadOrder_J1 fu x5 0

def d_spec_ReadOrder (fu:Nat) (Ab:ByteArray):Option (Request × Int) :=
  obind (d_spec_Parts fu Ab 10) fun x5=>bif (decide ((w64 (((x5.length:Int)) - 1)) > 60)) then some ((⟨0,(⟨0,0,0,0⟩:Pallet),0,[],[],0,[]⟩:Request),60) else bif (decide ((w64 (((x5.length:Int)) - 1)) < 1)) then some ((⟨0,(⟨0,0,0,0⟩:Pallet),0,[],[],0,[]⟩:Request),0) else obind (ix x5 0) fun Aa=>bif (!(Aa.toList == ((⟨#[119,97,121,32,102,105,114,115,116]⟩:ByteArray)).toList)) then obind (ix x5 0) fun Ac=>bif (!(Aa.toList == ((⟨#[119,97,121,32,110,101,120,116]⟩:ByteArray)).toList)) then some ((⟨0,(⟨0,0,0,0⟩:Pallet),0,[],[],0,[]⟩:Request),0) else d_spec_ReadOrder_J2 fu x5 else d_spec_ReadOrder_J2 fu x5

def d_spec_l1In (fu:Nat) (x1:Int) (Aa:Int) (Ab:Int):Option (Bool) :=
  bif (decide (x1 ≥ Aa)) then some (decide (x1 ≤ Ab)) else some (false)

def d_spec_l2Side (fu:Nat) (x1:Int):Option (Bool) :=
  obind (d_spec_l1In fu x1 1 2000) fun x2=>some (x2)

def d_spec_PalletOk (fu:Nat) (x1:Pallet):Option (Bool) :=
  obind (d_spec_l2Side fu x1.fW) fun x5=>bif x5 then obind (d_spec_l2Side fu x1.fD) fun Ac=>bif Ac then obind (d_spec_l2Side fu x1.fH) fun Ab=>bif Ab then obind (d_spec_l1In fu x1.fGram 1 100000) fun Aa=>some (Aa) else some (false) else some (false) else some (false)

def d_spec_l2Id (fu:Nat) (x1:Int):Option (Bool) :=
  obind (d_spec_l1In fu x1 0 999) fun x2=>some (x2)

def d_spec_TypeOk (fu:Nat) (x1:Typ):Option (Bool) :=
  obind (d_spec_l2Id fu x1.fId) fun x5=>bif x5 then obind (d_spec_l2Side fu x1.fW) fun Af=>bif Af then obind (d_spec_l2Side fu x1.fH) fun Ac=>bif Ac then obind (d_spec_l2Side fu x1.fD) fun Ae=>bif Ae then obind (d_spec_l1In fu x1.fTare 0 100000) fun Ab=>bif Ab then obind (d_spec_l1In fu x1.fGram 1 100000) fun Aa=>bif Aa then obind (d_spec_l1In fu x1.fCost 0 100000) fun Ad=>some (Ad) else some (false) else some (false) else some (false) else some (false) else some (false) else some (false)

def d_spec_ItemOk (fu:Nat) (x1:Item):Option (Bool) :=
  obind (d_spec_l2Id fu x1.fId) fun x5=>bif x5 then obind (d_spec_l2Side fu x1.fW) fun Af=>bif Af then obind (d_spec_l2Side fu x1.fH) fun Ac=>bif Ac then obind (d_spec_l2Side fu x1.fD) fun Ae=>bif Ae then obind (d_spec_l1In fu x1.fGram 1 100000) fun Ab=>bif Ab then obind (d_spec_l1In fu x1.fClass 0 3) fun Aa=>bif Aa then obind (d_spec_l1In fu x1.fCount 1 6) fun Ad=>some (Ad) else some (false) else some (false) else some (false) else some (false) else some (false) else some (false)

def d_spec_BoundsOk_J1 (fu:Nat) (k4:Int → Option (Bool)) (Aa:Int)  : Option (Bool) :=
  k4 (w64 (Aa + 1))

def d_spec_BoundsOk_L1_B (fu:Nat)  (r1:Request) (k7:Int → Int → Option (Bool)) (Ab:Int) (Aa:Int):Option (Bool) :=
  bif (decide (Aa < ((r1.fItems.length:Int)))) then obind (ix r1.fItems Aa) fun Ac=>obind (d_spec_ItemOk fu Ac) fun Ad=>bif (!Ad) then some (false) else obind (ix r1.fItems Aa) fun Ae=>k7 (w64 (Ab + Ac.fCount)) (w64 (Aa + 1)) else some (decide (Ab ≤ 12))
def d_spec_BoundsOk_L1 (fu:Nat)  (r1:Request):Nat → Int → Int → Option (Bool)
  | 0=>fun _ _=>none
  | n + 1=>d_spec_BoundsOk_L1_B fu r1 (d_spec_BoundsOk_L1 fu r1 n)

def d_spec_BoundsOk_L2_B (fu:Nat)  (r1:Request) (k6:Int → Option (Bool)) (Aa:Int):Option (Bool) :=
  bif (decide (Aa < ((r1.fTypes.length:Int)))) then obind (ix r1.fTypes Aa) fun Ab=>obind (d_spec_TypeOk fu Ab) fun Ac=>bif (!Ac) then some (false) else k6 (w64 (Aa + 1)) else d_spec_BoundsOk_L1 fu r1 fu 0 0
def d_spec_BoundsOk_L2 (fu:Nat)  (r1:Request):Nat → Int → Option (Bool)
  | 0=>fun _=>none
  | n + 1=>d_spec_BoundsOk_L2_B fu r1 (d_spec_BoundsOk_L2 fu r1 n)

def d_spec_BoundsOk_L3_B (fu:Nat)  (r1:Request) (k4:Int → Option (Bool)) (Aa:Int):Option (Bool) :=
  bif (decide (Aa < ((r1.fPairs.length:Int)))) then obind (ix r1.fPairs Aa) fun Ab=>obind (d_spec_l1In fu Ab.fA 0 3) fun Ac=>bif (!Ac) then some (false) else obind (ix r1.fPairs Aa) fun Ae=>obind (d_spec_l1In fu Ab.fB 0 3) fun Ad=>bif (!Ad) then some (false) else d_spec_BoundsOk_J1 fu k4 Aa else d_spec_BoundsOk_L2 fu r1 fu 0
def d_spec_BoundsOk_L3 (fu:Nat)  (r1:Request):Nat → Int → Option (Bool)
  | 0=>fun _=>none
  | n + 1=>d_spec_BoundsOk_L3_B fu r1 (d_spec_BoundsOk_L3 fu r1 n)

def d_spec_BoundsOk_J2 (fu:Nat) (r1:Request)  : Option (Bool) :=
  d_spec_BoundsOk_L3 fu r1 fu 0

def d_spec_BoundsOk (fu:Nat) (r1:Request):Option (Bool) :=
  obind (d_spec_l1In fu r1.fWay 0 1) fun Ab=>bif (!Ab) then some (false) else obind (d_spec_PalletOk fu r1.fPallet) fun Ac=>bif (!Ac) then some (false) else obind (d_spec_l1In fu r1.fClasses 1 4) fun Ad=>bif (!Ad) then some (false) else bif (decide (((r1.fPairs.length:Int)) > 16)) then some (false) else obind (d_spec_l1In fu ((r1.fTypes.length:Int)) 1 5) fun Aa=>bif (!Aa) then some (false) else obind (d_spec_l2Id fu r1.fMaster) fun Ae=>bif (!Ae) then some (false) else bif (decide (((r1.fItems.length:Int)) > 8)) then some (false) else d_spec_BoundsOk_J2 fu r1

def d_spec_MasterOf_L1_B (fu:Nat)  (r1:Request) (k1:Int → Option (Typ × Bool)) (Aa:Int):Option (Typ × Bool) :=
  bif (decide (Aa < ((r1.fTypes.length:Int)))) then obind (ix r1.fTypes Aa) fun Ab=>bif (Ab.fId == r1.fMaster) then obind (ix r1.fTypes Aa) fun Ac=>some (Ab,true) else k1 (w64 (Aa + 1)) else some ((⟨0,0,0,0,0,0,0⟩:Typ),false)
def d_spec_MasterOf_L1 (fu:Nat)  (r1:Request):Nat → Int → Option (Typ × Bool)
  | 0=>fun _=>none
  | n + 1=>d_spec_MasterOf_L1_B fu r1 (d_spec_MasterOf_L1 fu r1 n)

def d_spec_MasterOf (fu:Nat) (r1:Request):Option (Typ × Bool) :=
  d_spec_MasterOf_L1 fu r1 fu 0

def d_spec_l5Names_L1_B (fu:Nat) (k3:Int → Option (Bool)) (r1:Request) (Ab:Int) (k4:Int → Option (Bool)) (Aa:Int):Option (Bool) :=
  bif (decide (Aa < Ab)) then obind (ix r1.fTypes Ab) fun Ad=>obind (ix r1.fTypes Aa) fun Ac=>bif (Ad.fId == Ac.fId) then some (false) else k4 (w64 (Aa + 1)) else k3 (w64 (Ab + 1))
def d_spec_l5Names_L1 (fu:Nat) (k3:Int → Option (Bool)) (r1:Request) (Aa:Int):Nat → Int → Option (Bool)
  | 0=>fun _=>none
  | n + 1=>d_spec_l5Names_L1_B fu k3 r1 Aa (d_spec_l5Names_L1 fu k3 r1 Aa n)

def d_spec_l5Names_L2_B (fu:Nat) (k7:Int → Option (Bool)) (r1:Request) (Aa:Int) (k8:Int → Option (Bool)) (Ab:Int):Option (Bool) :=
  bif (decide (Ab < Aa)) then obind (ix r1.fItems Aa) fun Ac=>obind (ix r1.fItems Ab) fun Ad=>bif (Ac.fId == Ad.fId) then some (false) else k8 (w64 (Ab + 1)) else k7 (w64 (Aa + 1))
def d_spec_l5Names_L2 (fu:Nat) (k7:Int → Option (Bool)) (r1:Request) (Aa:Int):Nat → Int → Option (Bool)
  | 0=>fun _=>none
  | n + 1=>d_spec_l5Names_L2_B fu k7 r1 Aa (d_spec_l5Names_L2 fu k7 r1 Aa n)

def d_spec_l5Names_J1 (fu:Nat) (Aa:Int → Option (Bool)) (Ab:Int)  : Option (Bool) :=
  Aa (w64 (Ab + 1))

def d_spec_l5Names_L3_B (fu:Nat)  (r1:Request) (Ad:Int → Option (Bool)) (Aa:Int):Option (Bool) :=
  bif (decide (Aa < ((r1.fPairs.length:Int)))) then obind (ix r1.fPairs Aa) fun Ab=>bif (decide (Ab.fA ≥ r1.fClasses)) then some (false) else obind (ix r1.fPairs Aa) fun Ae=>bif (decide (Ab.fB ≥ r1.fClasses)) then some (false) else d_spec_l5Names_J1 fu Ad Aa else obind (d_spec_MasterOf fu r1) fun Ac=>some (Ac.2)
def d_spec_l5Names_L3 (fu:Nat)  (r1:Request):Nat → Int → Option (Bool)
  | 0=>fun _=>none
  | n + 1=>d_spec_l5Names_L3_B fu r1 (d_spec_l5Names_L3 fu r1 n)

def d_spec_l5Names_L4_B (fu:Nat)  (r1:Request) (k7:Int → Option (Bool)) (Aa:Int):Option (Bool) :=
  bif (decide (Aa < ((r1.fItems.length:Int)))) then obind (ix r1.fItems Aa) fun Ab=>bif (decide (Ab.fClass ≥ r1.fClasses)) then some (false) else d_spec_l5Names_L2 fu k7 r1 Aa fu 0 else d_spec_l5Names_L3 fu r1 fu 0
def d_spec_l5Names_L4 (fu:Nat)  (r1:Request):Nat → Int → Option (Bool)
  | 0=>fun _=>none
  | n + 1=>d_spec_l5Names_L4_B fu r1 (d_spec_l5Names_L4 fu r1 n)

def d_spec_l5Names_L5_B (fu:Nat)  (r1:Request) (k3:Int → Option (Bool)) (Aa:Int):Option (Bool) :=
  bif (decide (Aa < ((r1.fTypes.length:Int)))) then d_spec_l5Names_L1 fu k3 r1 Aa fu 0 else d_spec_l5Names_L4 fu r1 fu 0
def d_spec_l5Names_L5 (fu:Nat)  (r1:Request):Nat → Int → Option (Bool)
  | 0=>fun _=>none
  | n + 1=>d_spec_l5Names_L5_B fu r1 (d_spec_l5Names_L5 fu r1 n)

def d_spec_l5Names (fu:Nat) (r1:Request):Option (Bool) :=
  d_spec_l5Names_L5 fu r1 fu 0

def d_spec_Beside_J1 (fu:Nat) (k3:Int → Option (Bool)) (Aa:Int)  : Option (Bool) :=
  k3 (w64 (Aa + 1))

def d_spec_Beside_L1_B (fu:Nat)  (Ab:List Pair) (a5:Int) (b6:Int) (k3:Int → Option (Bool)) (Aa:Int):Option (Bool) :=
  bif (decide (Aa < ((Ab.length:Int)))) then obind (ix Ab Aa) fun Ac=>bif (Ac.fA == a5) then obind (ix Ab Aa) fun Ad=>bif (Ac.fB == b6) then some (true) else d_spec_Beside_J1 fu k3 Aa else d_spec_Beside_J1 fu k3 Aa else some (false)
def d_spec_Beside_L1 (fu:Nat)  (Aa:List Pair) (a5:Int) (b6:Int):Nat → Int → Option (Bool)
  | 0=>fun _=>none
  | n + 1=>d_spec_Beside_L1_B fu Aa a5 b6 (d_spec_Beside_L1 fu Aa a5 b6 n)

def d_spec_Beside (fu:Nat) (Aa:List Pair) (a5:Int) (b6:Int):Option (Bool) :=
  d_spec_Beside_L1 fu Aa a5 b6 fu 0

def d_spec_TableOk_J1 (fu:Nat) (Ab:Int → Option (Bool)) (Aa:Int)  : Option (Bool) :=
  Ab (w64 (Aa + 1))

def d_spec_TableOk_L1_B (fu:Nat) (k9:Int → Option (Bool)) (Ac:List Pair) (Ag:Int) (Ab:Int) (Ad:Int → Option (Bool)) (Aa:Int):Option (Bool) :=
  bif (decide (Aa < Ag)) then bif (Ab == Aa) then obind (d_spec_Beside fu Ac Ab Ab) fun Af=>bif (!Af) then some (false) else obind (d_spec_Beside fu Ac Ab Aa) fun Ah=>obind (d_spec_Beside fu Ac Aa Ab) fun Ai=>bif (!(Ah == Ai)) then some (false) else d_spec_TableOk_J1 fu Ad Aa else obind (d_spec_Beside fu Ac Ab Aa) fun Ae=>obind (d_spec_Beside fu Ac Aa Ab) fun Aj=>bif (!(Ae == Aj)) then some (false) else d_spec_TableOk_J1 fu Ad Aa else k9 (w64 (Ab + 1))
def d_spec_TableOk_L1 (fu:Nat) (k9:Int → Option (Bool)) (Ac:List Pair) (Ab:Int) (Aa:Int):Nat → Int → Option (Bool)
  | 0=>fun _=>none
  | n + 1=>d_spec_TableOk_L1_B fu k9 Ac Ab Aa (d_spec_TableOk_L1 fu k9 Ac Ab Aa n)

def d_spec_TableOk_L2_B (fu:Nat)  (Ac:List Pair) (Ab:Int) (k9:Int → Option (Bool)) (Aa:Int):Option (Bool) :=
  bif (decide (Aa < Ab)) then d_spec_TableOk_L1 fu k9 Ac Ab Aa fu 0 else some (true)
def d_spec_TableOk_L2 (fu:Nat)  (Ab:List Pair) (Aa:Int):Nat → Int → Option (Bool)
  | 0=>fun _=>none
  | n + 1=>d_spec_TableOk_L2_B fu Ab Aa (d_spec_TableOk_L2 fu Ab Aa n)

def d_spec_TableOk (fu:Nat) (Ab:List Pair) (Aa:Int):Option (Bool) :=
  obind (d_spec_l1In fu Aa 1 4) fun x6=>bif (!x6) then some (false) else d_spec_TableOk_L2 fu Ab Aa fu 0

def d_spec_l1Places_L1_B (fu:Nat)  (n1:Int) (k1:List Int → Int → Option ((List Int))) (Ab:List Int) (Aa:Int):Option ((List Int)) :=
  bif (decide (Aa < n1)) then obind (apnd 8 Ab (([Aa]:List Int))) fun Ac=>k1 Ac (w64 (Aa + 1)) else some (Ab)
def d_spec_l1Places_L1 (fu:Nat)  (n1:Int):Nat → List Int → Int → Option ((List Int))
  | 0=>fun _ _=>none
  | n + 1=>d_spec_l1Places_L1_B fu n1 (d_spec_l1Places_L1 fu n1 n)

def d_spec_l1Places (fu:Nat) (n1:Int):Option ((List Int)) :=
  d_spec_l1Places_L1 fu n1 fu (([]:List Int)) 0

def d_spec_l1Merge_J1 (fu:Nat) (k3:List Int → Int → Int → Option ((List Int))) (Ah:List Int) (Aj:Bool) (Ac:(List Int)) (Ae:(List Int)) (Ad:List Int) (Aa:Int) (Ab:Int)  : Option ((List Int)) :=
  bif (Ab == ((Ae.length:Int))) then obind (ix Ac Aa) fun Am=>obind (apnd 8 Ad (([Am]:List Int))) fun Al=>k3 Al (w64 (Aa + 1)) Ab else bif (Aa == ((Ac.length:Int))) then obind (ix Ae Ab) fun Ap=>obind (apnd 8 Ad (([Ap]:List Int))) fun Ar=>k3 Ar Aa (w64 (Ab + 1)) else obind (ix Ae Ab) fun Ag=>obind (ix Ah Ag) fun Ak=>obind (ix Ac Aa) fun Af=>obind (ix Ah Af) fun Ai=>bif (decide (Ak < Ai)) then bif (!Aj) then obind (ix Ae Ab) fun Bd=>obind (apnd 8 Ad (([Ag]:List Int))) fun Au=>k3 Au Aa (w64 (Ab + 1)) else obind (ix Ae Ab) fun Ay=>obind (ix Ah Ag) fun Bk=>obind (ix Ac Aa) fun Be=>obind (ix Ah Af) fun Ax=>bif (decide (Ak > Ai)) then bif Aj then obind (ix Ae Ab) fun Bc=>obind (apnd 8 Ad (([Ag]:List Int))) fun As=>k3 As Aa (w64 (Ab + 1)) else obind (ix Ac Aa) fun Bh=>obind (apnd 8 Ad (([Af]:List Int))) fun Aw=>k3 Aw (w64 (Aa + 1)) Ab else obind (ix Ac Aa) fun Az=>obind (apnd 8 Ad (([Af]:List Int))) fun At=>k3 At (w64 (Aa + 1)) Ab else obind (ix Ae Ab) fun Bf=>obind (ix Ah Ag) fun Ba=>obind (ix Ac Aa) fun Bb=>obind (ix Ah Af) fun Bj=>bif (decide (Ak > Ai)) then bif Aj then obind (ix Ae Ab) fun Bg=>obind (apnd 8 Ad (([Ag]:List Int))) fun Av=>k3 Av Aa (w64 (Ab + 1)) else obind (ix Ac Aa) fun Bl=>obind (apnd 8 Ad (([Af]:List Int))) fun Ao=>k3 Ao (w64 (Aa + 1)) Ab else obind (ix Ac Aa) fun Bi=>obind (apnd 8 Ad (([Af]:List Int))) fun Aq=>k3 Aq (w64 (Aa + 1)) Ab

def d_spec_l1Merge_L1_B (fu:Nat)  (Ag:List Int) (Af:Bool) (Ac:(List Int)) (Ab:(List Int)) (k3:List Int → Int → Int → Option ((List Int))) (Ad:List Int) (Aa:Int) (Ae:Int):Option ((List Int)) :=
  bif (decide (Aa < ((Ac.length:Int)))) then d_spec_l1Merge_J1 fu k3 Ag Af Ac Ab Ad Aa Ae else bif (decide (Ae < ((Ab.length:Int)))) then d_spec_l1Merge_J1 fu k3 Ag Af Ac Ab Ad Aa Ae else some (Ad)
def d_spec_l1Merge_L1 (fu:Nat)  (Ab:List Int) (Ac:Bool) (Aa:(List Int)) (Ad:(List Int)):Nat → List Int → Int → Int → Option ((List Int))
  | 0=>fun _ _ _=>none
  | n + 1=>d_spec_l1Merge_L1_B fu Ab Ac Aa Ad (d_spec_l1Merge_L1 fu Ab Ac Aa Ad n)

def d_spec_l1Merge_RB (fu:Nat) (self:List Int → List Int → Bool → Option ((List Int))) (Ac:List Int) (Aa:List Int) (Ab:Bool):Option ((List Int)) :=
  bif (decide (((Aa.length:Int)) < 2)) then obind (apnd 8 (([]:List Int)) Aa) fun Ag=>some (Ag) else obind (sls Aa 0 (w64 (Int.tdiv ((Aa.length:Int)) 2))) fun Ad=>obind (self Ac Ad Ab) fun Af=>obind (sls Aa (w64 (Int.tdiv ((Aa.length:Int)) 2)) (Aa.length:Int)) fun Ah=>obind (self Ac Ah Ab) fun Ae=>d_spec_l1Merge_L1 fu Ac Ab Af Ae fu (([]:List Int)) 0 0
def d_spec_l1Merge_R (fu:Nat):Nat → List Int → List Int → Bool → Option ((List Int))
  | 0=>fun _ _ _=>none
  | n + 1=>d_spec_l1Merge_RB fu (d_spec_l1Merge_R fu n)
def d_spec_l1Merge (fu:Nat) (Aa:List Int) (Ac:List Int) (Ab:Bool):Option ((List Int)):=d_spec_l1Merge_R fu fu Aa Ac Ab

def d_spec_SortUp (fu:Nat) (Aa:List Int):Option ((List Int)) :=
  obind (d_spec_l1Places fu ((Aa.length:Int))) fun x5=>obind (d_spec_l1Merge fu Aa x5 false) fun Ab=>some (Ab)

def d_spec_l5Sides (fu:Nat) (Aa:Int) (h2:Int) (d3:Int):Option ((List Int)) :=
  obind (d_spec_SortUp fu (([Aa,h2,d3]:List Int))) fun x9=>obind (ix x9 0) fun Ad=>obind (ix (([Aa,h2,d3]:List Int)) Ad) fun Af=>obind (ix x9 1) fun Ae=>obind (ix (([Aa,h2,d3]:List Int)) Ae) fun Ag=>obind (ix x9 2) fun Ab=>obind (ix (([Aa,h2,d3]:List Int)) Ab) fun Ac=>some (([Af,Ag,Ac]:List Int))

def d_spec_Fits (fu:Nat) (x1:Item) (t2:Typ):Option (Bool) :=
  obind (d_spec_l5Sides fu x1.fW x1.fH x1.fD) fun Ab=>obind (d_spec_l5Sides fu t2.fW t2.fH t2.fD) fun Aa=>obind (ix Ab 0) fun Ah=>obind (ix Aa 0) fun Ac=>bif (decide (Ah ≤ Ac)) then obind (ix Ab 1) fun Ae=>obind (ix Aa 1) fun Af=>bif (decide (Ae ≤ Af)) then obind (ix Ab 2) fun Ag=>obind (ix Aa 2) fun Ad=>bif (decide (Ag ≤ Ad)) then some (decide (x1.fGram ≤ t2.fGram)) else some (false) else some (false) else some (false)

def d_spec_Class_J1 (fu:Nat) (k4:Int → Option (Int)) (Aa:Int)  : Option (Int) :=
  k4 (w64 (Aa + 1))

def d_spec_Class_L1_B (fu:Nat)  (r1:Request) (k4:Int → Option (Int)) (Ab:Int):Option (Int) :=
  bif (decide (Ab < ((r1.fTypes.length:Int)))) then obind (ix r1.fTypes Ab) fun Aa=>bif (decide (Aa.fW > r1.fPallet.fW)) then some (6) else bif (decide (Aa.fD > r1.fPallet.fD)) then some (6) else bif (decide (Aa.fH > r1.fPallet.fH)) then some (6) else bif (decide ((w64 (Aa.fTare + Aa.fGram)) > r1.fPallet.fGram)) then some (6) else d_spec_Class_J1 fu k4 Ab else some (0)
def d_spec_Class_L1 (fu:Nat)  (r1:Request):Nat → Int → Option (Int)
  | 0=>fun _=>none
  | n + 1=>d_spec_Class_L1_B fu r1 (d_spec_Class_L1 fu r1 n)

def d_spec_Class_L2_B (fu:Nat)  (r1:Request) (Ab:Typ × Bool) (k1:Int → Option (Int)) (Aa:Int):Option (Int) :=
  bif (decide (Aa < ((r1.fItems.length:Int)))) then obind (ix r1.fItems Aa) fun Ad=>obind (d_spec_Fits fu Ad Ab.1) fun Ac=>bif (!Ac) then some (5) else k1 (w64 (Aa + 1)) else d_spec_Class_L1 fu r1 fu 0
def d_spec_Class_L2 (fu:Nat)  (r1:Request) (Aa:Typ × Bool):Nat → Int → Option (Int)
  | 0=>fun _=>none
  | n + 1=>d_spec_Class_L2_B fu r1 Aa (d_spec_Class_L2 fu r1 Aa n)

def d_spec_Class (fu:Nat) (r1:Request):Option (Int) :=
  obind (d_spec_BoundsOk fu r1) fun Aa=>bif (!Aa) then some (2) else obind (d_spec_l5Names fu r1) fun Ac=>bif (!Ac) then some (3) else obind (d_spec_TableOk fu r1.fPairs r1.fClasses) fun Ab=>bif (!Ab) then some (4) else obind (d_spec_MasterOf fu r1) fun Ad=>d_spec_Class_L2 fu r1 Ad fu 0

def d_spec_ClassOf (fu:Nat) (Aa:ByteArray):Option (Int) :=
  obind (d_spec_ReadOrder fu Aa) fun x2=>bif (decide (x2.2 ≥ 0)) then some (1) else obind (d_spec_Class fu x2.1) fun Ab=>some (Ab)

def d_spec_Present_J1 (fu:Nat) (Ac:List Int → Int → Option ((List Int))) (Aa:Int) (Ab:List Int):Option ((List Int)) :=
  Ac Ab (w64 (Aa + 1))

def d_spec_Present_J2 (fu:Nat) (Aa:Bool → Int → Option ((List Int))) (Ac:Int) (Ab:Bool):Option ((List Int)) :=
  Aa Ab (w64 (Ac + 1))

def d_spec_Present_L1_B (fu:Nat) (Ac:List Int → Int → Option ((List Int))) (r1:Request) (Ad:List Int) (Ab:Int) (Af:Bool → Int → Option ((List Int))) (Ae:Bool) (Aa:Int):Option ((List Int)) :=
  bif (decide (Aa < ((r1.fItems.length:Int)))) then bif Ae then d_spec_Present_J2 fu Af Aa true else obind (ix r1.fItems Aa) fun Ah=>d_spec_Present_J2 fu Af Aa (Ah.fClass == Ab) else bif Ae then obind (apnd 8 Ad (([Ab]:List Int))) fun Ag=>d_spec_Present_J1 fu Ac Ab Ag else d_spec_Present_J1 fu Ac Ab Ad
def d_spec_Present_L1 (fu:Nat) (Ac:List Int → Int → Option ((List Int))) (r1:Request) (Aa:List Int) (Ab:Int):Nat → Bool → Int → Option ((List Int))
  | 0=>fun _ _=>none
  | n + 1=>d_spec_Present_L1_B fu Ac r1 Aa Ab (d_spec_Present_L1 fu Ac r1 Aa Ab n)

def d_spec_Present_L2_B (fu:Nat)  (r1:Request) (Ac:List Int → Int → Option ((List Int))) (Aa:List Int) (Ab:Int):Option ((List Int)) :=
  bif (decide (Ab < 4)) then d_spec_Present_L1 fu Ac r1 Aa Ab fu false 0 else some (Aa)
def d_spec_Present_L2 (fu:Nat)  (r1:Request):Nat → List Int → Int → Option ((List Int))
  | 0=>fun _ _=>none
  | n + 1=>d_spec_Present_L2_B fu r1 (d_spec_Present_L2 fu r1 n)

def d_spec_Present (fu:Nat) (r1:Request):Option ((List Int)) :=
  obind (d_spec_Class fu r1) fun Aa=>bif (Aa != 0) then some (([]:List Int)) else d_spec_Present_L2 fu r1 fu (([]:List Int)) 0

def d_spec_l1Has_L1_B (fu:Nat)  (Ab:List Int) (x5:Int) (k1:Int → Option (Bool)) (Aa:Int):Option (Bool) :=
  bif (decide (Aa < ((Ab.length:Int)))) then obind (ix Ab Aa) fun Ac=>bif (Ac == x5) then some (true) else k1 (w64 (Aa + 1)) else some (false)
def d_spec_l1Has_L1 (fu:Nat)  (Aa:List Int) (x5:Int):Nat → Int → Option (Bool)
  | 0=>fun _=>none
  | n + 1=>d_spec_l1Has_L1_B fu Aa x5 (d_spec_l1Has_L1 fu Aa x5 n)

def d_spec_l1Has (fu:Nat) (Aa:List Int) (x5:Int):Option (Bool) :=
  d_spec_l1Has_L1 fu Aa x5 fu 0

def d_spec_l3Joins_J1 (fu:Nat) (k3:Int → Option (Bool)) (Aa:Int)  : Option (Bool) :=
  k3 (w64 (Aa + 1))

def d_spec_l3Joins_L1_B (fu:Nat)  (Ae:List Pair) (Ab:List Int) (Ad:Int) (k3:Int → Option (Bool)) (Aa:Int):Option (Bool) :=
  bif (decide (Aa < ((Ab.length:Int)))) then obind (ix Ab Aa) fun Ac=>obind (d_spec_Beside fu Ae Ac Ad) fun Af=>bif (!Af) then some (false) else obind (ix Ab Aa) fun Ah=>obind (d_spec_Beside fu Ae Ad Ac) fun Ag=>bif (!Ag) then some (false) else d_spec_l3Joins_J1 fu k3 Aa else some (true)
def d_spec_l3Joins_L1 (fu:Nat)  (Ab:List Pair) (Aa:List Int) (Ac:Int):Nat → Int → Option (Bool)
  | 0=>fun _=>none
  | n + 1=>d_spec_l3Joins_L1_B fu Ab Aa Ac (d_spec_l3Joins_L1 fu Ab Aa Ac n)

def d_spec_l3Joins (fu:Nat) (Ab:List Pair) (Aa:List Int) (Ac:Int):Option (Bool) :=
  d_spec_l3Joins_L1 fu Ab Aa Ac fu 0

def d_spec_Groups_J1 (fu:Nat) (Ac:List (List Int) → Int → Option ((List (List Int)))) (Ab:Int) (Aa:List (List Int)):Option ((List (List Int))) :=
  Ac Aa (w64 (Ab + 1))

def d_spec_Groups_J2 (fu:Nat) (Ab:Int → Int → Option ((List (List Int)))) (Aa:Int) (Ac:Int):Option ((List (List Int))) :=
  Ab Ac (w64 (Aa - 1))

def d_spec_Groups_L1_B (fu:Nat) (Ae:List (List Int) → Int → Option ((List (List Int)))) (Ai:List Pair) (Ad:List (List Int)) (Ac:Int) (Af:Int → Int → Option ((List (List Int)))) (Ab:Int) (Aa:Int):Option ((List (List Int))) :=
  bif (decide (Aa ≥ 0)) then obind (ix Ad Aa) fun Al=>obind (d_spec_l3Joins fu Ai Al Ac) fun Ag=>bif Ag then d_spec_Groups_J2 fu Af Aa Aa else d_spec_Groups_J2 fu Af Aa Ab else bif (decide (Ab < 0)) then obind (apnd 24 Ad [([Ac]:List Int)]) fun Aj=>d_spec_Groups_J1 fu Ae Ac Aj else obind (ix Ad Ab) fun Ak=>obind (apnd 8 Ak (([Ac]:List Int))) fun Ah=>obind (ix Ad Ab) fun Am=>d_spec_Groups_J1 fu Ae Ac (setx Ad Ab Ah)
def d_spec_Groups_L1 (fu:Nat) (Ad:List (List Int) → Int → Option ((List (List Int)))) (Ac:List Pair) (Ab:List (List Int)) (Aa:Int):Nat → Int → Int → Option ((List (List Int)))
  | 0=>fun _ _=>none
  | n + 1=>d_spec_Groups_L1_B fu Ad Ac Ab Aa (d_spec_Groups_L1 fu Ad Ac Ab Aa n)

def d_spec_Groups_L2_B (fu:Nat)  (Af:List Pair) (Ad:List Int) (Ac:List (List Int) → Int → Option ((List (List Int)))) (Ab:List (List Int)) (Aa:Int):Option ((List (List Int))) :=
  bif (decide (Aa < 4)) then obind (d_spec_l1Has fu Ad Aa) fun Ae=>bif (!Ae) then d_spec_Groups_J1 fu Ac Aa Ab else d_spec_Groups_L1 fu Ac Af Ab Aa fu ((-1)) (w64 (((Ab.length:Int)) - 1)) else some (Ab)
def d_spec_Groups_L2 (fu:Nat)  (Ab:List Pair) (Aa:List Int):Nat → List (List Int) → Int → Option ((List (List Int)))
  | 0=>fun _ _=>none
  | n + 1=>d_spec_Groups_L2_B fu Ab Aa (d_spec_Groups_L2 fu Ab Aa n)

def d_spec_Groups (fu:Nat) (Ab:List Pair) (Aa:List Int):Option ((List (List Int))) :=
  d_spec_Groups_L2 fu Ab Aa fu (([]:List (List Int))) 0

def d_spec_GroupsOf (fu:Nat) (r1:Request):Option ((List (List Int))) :=
  obind (d_spec_Present fu r1) fun Ab=>obind (d_spec_Groups fu r1.fPairs Ab) fun Aa=>some (Aa)

def d_spec_l6Units_L1_B (fu:Nat) (k3:List Int → Int → Option ((List Int))) (r1:Request) (Aa:Int) (k4:List Int → Int → Option ((List Int))) (Ab:List Int) (Ac:Int):Option ((List Int)) :=
  obind (ix r1.fItems Aa) fun Ae=>bif (decide (Ac < Ae.fCount)) then obind (apnd 8 Ab (([Aa]:List Int))) fun Ad=>k4 Ad (w64 (Ac + 1)) else k3 Ab (w64 (Aa + 1))
def d_spec_l6Units_L1 (fu:Nat) (k3:List Int → Int → Option ((List Int))) (r1:Request) (Aa:Int):Nat → List Int → Int → Option ((List Int))
  | 0=>fun _ _=>none
  | n + 1=>d_spec_l6Units_L1_B fu k3 r1 Aa (d_spec_l6Units_L1 fu k3 r1 Aa n)

def d_spec_l6Units_L2_B (fu:Nat)  (r1:Request) (k3:List Int → Int → Option ((List Int))) (Ab:List Int) (Aa:Int):Option ((List Int)) :=
  bif (decide (Aa < ((r1.fItems.length:Int)))) then d_spec_l6Units_L1 fu k3 r1 Aa fu Ab 0 else some (Ab)
def d_spec_l6Units_L2 (fu:Nat)  (r1:Request):Nat → List Int → Int → Option ((List Int))
  | 0=>fun _ _=>none
  | n + 1=>d_spec_l6Units_L2_B fu r1 (d_spec_l6Units_L2 fu r1 n)

def d_spec_l6Units (fu:Nat) (r1:Request):Option ((List Int)) :=
  d_spec_l6Units_L2 fu r1 fu (([]:List Int)) 0

def d_spec_UnitsOf_J1 (fu:Nat) (k3:List Int → Int → Option ((List Int))) (Aa:Int) (Ab:List Int):Option ((List Int)) :=
  k3 Ab (w64 (Aa + 1))

def d_spec_UnitsOf_L1_B (fu:Nat)  (r1:Request) (Ag:Int) (Ai:(List (List Int))) (Ac:(List Int)) (k3:List Int → Int → Option ((List Int))) (Ab:List Int) (Aa:Int):Option ((List Int)) :=
  bif (decide (Aa < ((Ac.length:Int)))) then obind (ix Ai Ag) fun Ah=>obind (ix Ac Aa) fun Ad=>obind (ix r1.fItems Ad) fun Af=>obind (d_spec_l1Has fu Ah Af.fClass) fun Aj=>bif Aj then obind (apnd 8 Ab (([Aa]:List Int))) fun Ae=>d_spec_UnitsOf_J1 fu k3 Aa Ae else d_spec_UnitsOf_J1 fu k3 Aa Ab else some (Ab)
def d_spec_UnitsOf_L1 (fu:Nat)  (r1:Request) (Aa:Int) (Ac:(List (List Int))) (Ab:(List Int)):Nat → List Int → Int → Option ((List Int))
  | 0=>fun _ _=>none
  | n + 1=>d_spec_UnitsOf_L1_B fu r1 Aa Ac Ab (d_spec_UnitsOf_L1 fu r1 Aa Ac Ab n)

def d_spec_UnitsOf (fu:Nat) (r1:Request) (Aa:Int):Option ((List Int)) :=
  obind (d_spec_GroupsOf fu r1) fun Ab=>obind (d_spec_l1In fu Aa 0 (w64 (((Ab.length:Int)) - 1))) fun Ac=>bif (!Ac) then some (([]:List Int)) else obind (d_spec_l6Units fu r1) fun Ad=>d_spec_UnitsOf_L1 fu r1 Aa Ab Ad fu (([]:List Int)) 0

def d_spec_l7Known_J1 (fu:Nat) (k3:List Int → Int → Option ((List Int))) (Aa:Int) (Ab:List Int):Option ((List Int)) :=
  k3 Ab (w64 (Aa + 1))

def d_spec_l7Known_L1_B (fu:Nat)  (Ag:List Int) (Ac:List Int) (k3:List Int → Int → Option ((List Int))) (Ab:List Int) (Aa:Int):Option ((List Int)) :=
  bif (decide (Aa < ((Ac.length:Int)))) then obind (ix Ac Aa) fun Ad=>obind (d_spec_l1In fu Ad 0 (w64 (((Ag.length:Int)) - 1))) fun Ae=>bif Ae then obind (ix Ac Aa) fun Ah=>obind (apnd 8 Ab (([Ad]:List Int))) fun Af=>d_spec_l7Known_J1 fu k3 Aa Af else d_spec_l7Known_J1 fu k3 Aa Ab else some (Ab)
def d_spec_l7Known_L1 (fu:Nat)  (Aa:List Int) (Ab:List Int):Nat → List Int → Int → Option ((List Int))
  | 0=>fun _ _=>none
  | n + 1=>d_spec_l7Known_L1_B fu Aa Ab (d_spec_l7Known_L1 fu Aa Ab n)

def d_spec_l7Known (fu:Nat) (Aa:List Int) (Ab:List Int):Option ((List Int)) :=
  d_spec_l7Known_L1 fu Aa Ab fu (([]:List Int)) 0

def d_spec_l6Item (fu:Nat) (r1:Request) (Aa:List Int) (u9:Int):Option (Item × Bool) :=
  obind (d_spec_l1In fu u9 0 (w64 (((Aa.length:Int)) - 1))) fun Ad=>bif (!Ad) then some ((⟨0,0,0,0,0,0,0⟩:Item),false) else obind (ix Aa u9) fun Ab=>obind (ix r1.fItems Ab) fun Ac=>some (Ac,true)

def d_spec_Volume_J1 (fu:Nat) (Aa:Int) (h2:Int) (d3:Int)  : Option (Int) :=
  some (w64 ((w64 (Aa * h2)) * d3))

def d_spec_Volume (fu:Nat) (Aa:Int) (h2:Int) (d3:Int):Option (Int) :=
  obind (d_spec_l1In fu Aa 0 2000) fun Ac=>bif (!Ac) then some (0) else obind (d_spec_l1In fu h2 0 2000) fun Ad=>bif (!Ad) then some (0) else obind (d_spec_l1In fu d3 0 2000) fun Ab=>bif (!Ab) then some (0) else d_spec_Volume_J1 fu Aa h2 d3

def d_spec_l7Of_J1 (fu:Nat) (k7:L7 → Int → Option (L7)) (Ab:Int) (Aa:L7):Option (L7) :=
  k7 Aa (w64 (Ab + 1))

def d_spec_l7Of_J2 (fu:Nat) (k7:L7 → Int → Option (L7)) (Ab:L7) (Ac:Int) (Aa:Item):Option (L7) :=
  obind (d_spec_Volume fu Aa.fW Aa.fH Aa.fD) fun Ad=>d_spec_l7Of_J1 fu k7 Ac ((⟨w64 (Ab.fvol + Ad),w64 (Ab.fgram + Aa.fGram)⟩:L7))

def d_spec_l7Of_L1_B (fu:Nat)  (r1:Request) (Ad:List Int) (Ab:List Int) (k7:L7 → Int → Option (L7)) (Ac:L7) (Aa:Int):Option (L7) :=
  bif (decide (Aa < ((Ab.length:Int)))) then obind (ix Ab Aa) fun Ae=>obind (d_spec_l6Item fu r1 Ad Ae) fun Af=>d_spec_l7Of_J2 fu k7 Ac Aa Af.1 else some (Ac)
def d_spec_l7Of_L1 (fu:Nat)  (r1:Request) (Aa:List Int) (Ab:List Int):Nat → L7 → Int → Option (L7)
  | 0=>fun _ _=>none
  | n + 1=>d_spec_l7Of_L1_B fu r1 Aa Ab (d_spec_l7Of_L1 fu r1 Aa Ab n)

def d_spec_l7Of (fu:Nat) (r1:Request) (Aa:List Int) (Ab:List Int):Option (L7) :=
  d_spec_l7Of_L1 fu r1 Aa Ab fu ((⟨0,0⟩:L7)) 0

def d_spec_l7Room_J1 (fu:Nat) (m9:Typ) (Aa:L7):Option (Bool) :=
  obind (d_spec_Volume fu m9.fW m9.fH m9.fD) fun Ab=>bif (decide (Aa.fvol ≤ Ab)) then some (decide (Aa.fgram ≤ m9.fGram)) else some (false)

def d_spec_l7Room (fu:Nat) (r1:Request) (Ab:List Int) (m9:Typ) (Aa:List Int) (Ae:Int):Option (Bool) :=
  obind (apnd 8 (([]:List Int)) Aa) fun Ad=>obind (apnd 8 Ad (([Ae]:List Int))) fun Ac=>obind (d_spec_l7Of fu r1 Ab Ac) fun Af=>d_spec_l7Room_J1 fu m9 Af

def d_spec_l7Next_J1 (fu:Nat) (k3:List (List Int) → Int → Option ((List (List Int)))) (Ab:Int) (Aa:List (List Int)):Option ((List (List Int))) :=
  k3 Aa (w64 (Ab + 1))

def d_spec_l7Next_L1_B (fu:Nat)  (r1:Request) (Ac:List Int) (Al:Typ × Bool) (Ag:(List Int)) (k3:List (List Int) → Int → Option ((List (List Int)))) (Aa:List (List Int)) (Ab:Int):Option ((List (List Int))) :=
  bif (decide (Ab < ((Ac.length:Int)))) then bif (decide (((Aa.length:Int)) > 0)) then obind (ix Aa (w64 (((Aa.length:Int)) - 1))) fun Ae=>obind (ix Ac Ab) fun Ad=>obind (d_spec_l7Room fu r1 Ag Al.1 Ae Ad) fun Aj=>bif Aj then obind (ix Aa (w64 (((Aa.length:Int)) - 1))) fun Ao=>obind (ix Ac Ab) fun Am=>obind (apnd 8 Ae (([Ad]:List Int))) fun Ai=>obind (ix Aa (w64 (((Aa.length:Int)) - 1))) fun Ap=>d_spec_l7Next_J1 fu k3 Ab (setx Aa (w64 (((Aa.length:Int)) - 1)) Ai) else obind (ix Ac Ab) fun Aq=>obind (apnd 24 Aa [([Ad]:List Int)]) fun Af=>d_spec_l7Next_J1 fu k3 Ab Af else obind (ix Ac Ab) fun Ah=>obind (apnd 24 Aa [([Ah]:List Int)]) fun Ak=>d_spec_l7Next_J1 fu k3 Ab Ak else some (Aa)
def d_spec_l7Next_L1 (fu:Nat)  (r1:Request) (Ac:List Int) (Ab:Typ × Bool) (Aa:(List Int)):Nat → List (List Int) → Int → Option ((List (List Int)))
  | 0=>fun _ _=>none
  | n + 1=>d_spec_l7Next_L1_B fu r1 Ac Ab Aa (d_spec_l7Next_L1 fu r1 Ac Ab Aa n)

def d_spec_l7Next (fu:Nat) (r1:Request) (Ac:List Int):Option ((List (List Int))) :=
  obind (d_spec_MasterOf fu r1) fun Ab=>obind (d_spec_l6Units fu r1) fun Aa=>d_spec_l7Next_L1 fu r1 Ac Ab Aa fu (([]:List (List Int))) 0

def d_spec_NextFit (fu:Nat) (r1:Request) (Ad:List Int):Option ((List (List Int))) :=
  obind (d_spec_Class fu r1) fun Ae=>bif (Ae != 0) then some (([]:List (List Int))) else obind (d_spec_l6Units fu r1) fun Ac=>obind (d_spec_l7Known fu Ac Ad) fun Aa=>obind (d_spec_l7Next fu r1 Aa) fun Ab=>some (Ab)

def d_spec_SortDown (fu:Nat) (Aa:List Int):Option ((List Int)) :=
  obind (d_spec_l1Places fu ((Aa.length:Int))) fun x5=>obind (d_spec_l1Merge fu Aa x5 true) fun Ab=>some (Ab)

def d_spec_l7First_J1 (fu:Nat) (Aa:List (List Int) → Int → Option ((List (List Int)))) (Ab:Int) (Ac:List (List Int)):Option ((List (List Int))) :=
  Aa Ac (w64 (Ab + 1))

def d_spec_l7First_J2 (fu:Nat) (Ab:Int → Int → Option ((List (List Int)))) (Ac:Int) (Aa:Int):Option ((List (List Int))) :=
  Ab Aa (w64 (Ac - 1))

def d_spec_l7First_L1_B (fu:Nat) (Ae:List (List Int) → Int → Option ((List (List Int)))) (r1:Request) (Ao:Typ × Bool) (Ai:(List Int)) (Ac:List (List Int)) (Af:Int) (Ad:Int) (Ag:Int → Int → Option ((List (List Int)))) (Ab:Int) (Aa:Int):Option ((List (List Int))) :=
  bif (decide (Aa ≥ 0)) then obind (ix Ac Aa) fun Ak=>obind (d_spec_l7Room fu r1 Ai Ao.1 Ak Ad) fun Aj=>bif Aj then d_spec_l7First_J2 fu Ag Aa Aa else d_spec_l7First_J2 fu Ag Aa Ab else bif (decide (Ab < 0)) then obind (apnd 24 Ac [([Ad]:List Int)]) fun Am=>d_spec_l7First_J1 fu Ae Af Am else obind (ix Ac Ab) fun Ah=>obind (apnd 8 Ah (([Ad]:List Int))) fun Al=>obind (ix Ac Ab) fun Ap=>d_spec_l7First_J1 fu Ae Af (setx Ac Ab Al)
def d_spec_l7First_L1 (fu:Nat) (Ab:List (List Int) → Int → Option ((List (List Int)))) (r1:Request) (Ae:Typ × Bool) (Aa:(List Int)) (Af:List (List Int)) (Ad:Int) (Ac:Int):Nat → Int → Int → Option ((List (List Int)))
  | 0=>fun _ _=>none
  | n + 1=>d_spec_l7First_L1_B fu Ab r1 Ae Aa Af Ad Ac (d_spec_l7First_L1 fu Ab r1 Ae Aa Af Ad Ac n)

def d_spec_l7First_L2_B (fu:Nat)  (r1:Request) (Ag:List Int) (Ai:Typ × Bool) (Ad:(List Int)) (Ac:(List Int)) (Ae:List (List Int) → Int → Option ((List (List Int)))) (Ab:List (List Int)) (Aa:Int):Option ((List (List Int))) :=
  bif (decide (Aa < ((Ac.length:Int)))) then obind (ix Ac Aa) fun Ah=>obind (ix Ag Ah) fun Af=>d_spec_l7First_L1 fu Ae r1 Ai Ad Ab Aa Af fu ((-1)) (w64 (((Ab.length:Int)) - 1)) else some (Ab)
def d_spec_l7First_L2 (fu:Nat)  (r1:Request) (Ad:List Int) (Ac:Typ × Bool) (Ab:(List Int)) (Aa:(List Int)):Nat → List (List Int) → Int → Option ((List (List Int)))
  | 0=>fun _ _=>none
  | n + 1=>d_spec_l7First_L2_B fu r1 Ad Ac Ab Aa (d_spec_l7First_L2 fu r1 Ad Ac Ab Aa n)

def d_spec_l7First_L3_B (fu:Nat)  (r1:Request) (Ab:List Int) (Ai:Typ × Bool) (Ac:(List Int)) (k1:List Int → Int → Option ((List (List Int)))) (Ad:List Int) (Aa:Int):Option ((List (List Int))) :=
  bif (decide (Aa < ((Ab.length:Int)))) then obind (sls Ab Aa (w64 (Aa + 1))) fun Af=>obind (d_spec_l7Of fu r1 Ac Af) fun Ah=>obind (apnd 8 Ad (([Ah.fvol]:List Int))) fun Ae=>k1 Ae (w64 (Aa + 1)) else obind (d_spec_SortDown fu Ad) fun Ag=>d_spec_l7First_L2 fu r1 Ab Ai Ac Ag fu (([]:List (List Int))) 0
def d_spec_l7First_L3 (fu:Nat)  (r1:Request) (Ac:List Int) (Ab:Typ × Bool) (Aa:(List Int)):Nat → List Int → Int → Option ((List (List Int)))
  | 0=>fun _ _=>none
  | n + 1=>d_spec_l7First_L3_B fu r1 Ac Ab Aa (d_spec_l7First_L3 fu r1 Ac Ab Aa n)

def d_spec_l7First (fu:Nat) (r1:Request) (Ac:List Int):Option ((List (List Int))) :=
  obind (d_spec_MasterOf fu r1) fun Ab=>obind (d_spec_l6Units fu r1) fun Aa=>d_spec_l7First_L3 fu r1 Ac Ab Aa fu (([]:List Int)) 0

def d_spec_FirstFit (fu:Nat) (r1:Request) (Ad:List Int):Option ((List (List Int))) :=
  obind (d_spec_Class fu r1) fun Ae=>bif (Ae != 0) then some (([]:List (List Int))) else obind (d_spec_l6Units fu r1) fun Ac=>obind (d_spec_l7Known fu Ac Ad) fun Aa=>obind (d_spec_l7First fu r1 Aa) fun Ab=>some (Ab)

def d_spec_PackWay (fu:Nat) (r1:Request) (Aa:List Int):Option ((List (List Int))) :=
  bif (r1.fWay == 1) then obind (d_spec_NextFit fu r1 Aa) fun Ac=>some (Ac) else obind (d_spec_FirstFit fu r1 Aa) fun Ab=>some (Ab)

def d_spec_Holds_J1 (fu:Nat) (r1:Request) (Ad:List Int) (t9:Typ) (Ac:(List Int))  : Option (Bool) :=
  obind (d_spec_l7Of fu r1 Ac Ad) fun Aa=>obind (d_spec_Volume fu t9.fW t9.fH t9.fD) fun Ab=>bif (decide (Aa.fvol ≤ Ab)) then some (decide (Aa.fgram ≤ t9.fGram)) else some (false)

def d_spec_Holds_J2 (fu:Nat) (Ab:Int → Option (Bool)) (Aa:Int)  : Option (Bool) :=
  Ab (w64 (Aa + 1))

def d_spec_Holds_J3 (fu:Nat) (Ac:Int → Option (Bool)) (t9:Typ) (Ae:Int) (Ad:Item) (Ab:Bool):Option (Bool) :=
  bif (!Ab) then some (false) else obind (d_spec_Fits fu Ad t9) fun Aa=>bif (!Aa) then some (false) else d_spec_Holds_J2 fu Ac Ae

def d_spec_Holds_L1_B (fu:Nat)  (r1:Request) (Aa:List Int) (t9:Typ) (Ac:(List Int)) (Af:Int → Option (Bool)) (Ab:Int):Option (Bool) :=
  bif (decide (Ab < ((Aa.length:Int)))) then obind (ix Aa Ab) fun Ae=>obind (d_spec_l6Item fu r1 Ac Ae) fun Ad=>d_spec_Holds_J3 fu Af t9 Ab Ad.1 Ad.2 else d_spec_Holds_J1 fu r1 Aa t9 Ac
def d_spec_Holds_L1 (fu:Nat)  (r1:Request) (Ab:List Int) (t9:Typ) (Aa:(List Int)):Nat → Int → Option (Bool)
  | 0=>fun _=>none
  | n + 1=>d_spec_Holds_L1_B fu r1 Ab t9 Aa (d_spec_Holds_L1 fu r1 Ab t9 Aa n)

def d_spec_Holds (fu:Nat) (r1:Request) (Ac:List Int) (t9:Typ):Option (Bool) :=
  obind (d_spec_Class fu r1) fun Ab=>bif (Ab != 0) then some (false) else obind (d_spec_l6Units fu r1) fun Aa=>d_spec_Holds_L1 fu r1 Ac t9 Aa fu 0

def d_spec_Cheapest_J1 (fu:Nat) (k3:Typ → Bool → Int → Option (Typ × Bool)) (Ac:Int) (Ab:Typ) (Aa:Bool):Option (Typ × Bool) :=
  k3 Ab Aa (w64 (Ac + 1))

def d_spec_Cheapest_L1_B (fu:Nat)  (r1:Request) (Af:List Int) (k3:Typ → Bool → Int → Option (Typ × Bool)) (Ac:Typ) (Ad:Bool) (Aa:Int):Option (Typ × Bool) :=
  bif (decide (Aa < ((r1.fTypes.length:Int)))) then obind (ix r1.fTypes Aa) fun Ab=>obind (d_spec_Holds fu r1 Af Ab) fun Ae=>bif (!Ae) then d_spec_Cheapest_J1 fu k3 Aa Ac Ad else bif (!Ad) then d_spec_Cheapest_J1 fu k3 Aa Ab true else bif (decide (Ab.fCost < Ac.fCost)) then d_spec_Cheapest_J1 fu k3 Aa Ab true else bif (Ab.fCost == Ac.fCost) then bif (decide (Ab.fId < Ac.fId)) then d_spec_Cheapest_J1 fu k3 Aa Ab true else d_spec_Cheapest_J1 fu k3 Aa Ac Ad else d_spec_Cheapest_J1 fu k3 Aa Ac Ad else some (Ac,Ad)
def d_spec_Cheapest_L1 (fu:Nat)  (r1:Request) (Aa:List Int):Nat → Typ → Bool → Int → Option (Typ × Bool)
  | 0=>fun _ _ _=>none
  | n + 1=>d_spec_Cheapest_L1_B fu r1 Aa (d_spec_Cheapest_L1 fu r1 Aa n)

def d_spec_Cheapest (fu:Nat) (r1:Request) (Aa:List Int):Option (Typ × Bool) :=
  d_spec_Cheapest_L1 fu r1 Aa fu ((⟨0,0,0,0,0,0,0⟩:Typ)) false 0

def d_spec_CartonsOf_J1 (fu:Nat) (Aa:List Carton → Int → Option ((List Carton))) (Ac:Int) (Ab:List Carton):Option ((List Carton)) :=
  Aa Ab (w64 (Ac + 1))

def d_spec_CartonsOf_J2 (fu:Nat) (Ac:List Carton → Int → Option ((List Carton))) (Aa:Int) (Ab:List Carton):Option ((List Carton)) :=
  Ac Ab (w64 (Aa + 1))

def d_spec_CartonsOf_L1_B (fu:Nat) (Ao:List Carton → Int → Option ((List Carton))) (Ai:Int) (Ag:(List (List Int))) (Ap:List Carton) (Ac:Int) (Aj:Typ) (Ab:(List Int)) (Am:List Int → Int → Option ((List Carton))) (Ad:List Int) (Aa:Int):Option ((List Carton)) :=
  bif (decide (Aa < ((Ab.length:Int)))) then obind (ix Ag Ac) fun Ah=>obind (ix Ab Aa) fun Ae=>obind (ix Ah Ae) fun Al=>obind (apnd 8 Ad (([Al]:List Int))) fun Af=>Am Af (w64 (Aa + 1)) else obind (apnd 40 Ap [(⟨Aj.fId,Ai,Ad⟩:Carton)]) fun Ak=>d_spec_CartonsOf_J2 fu Ao Ac Ak
def d_spec_CartonsOf_L1 (fu:Nat) (Af:List Carton → Int → Option ((List Carton))) (Ad:Int) (Ab:(List (List Int))) (Ag:List Carton) (Ac:Int) (Ae:Typ) (Aa:(List Int)):Nat → List Int → Int → Option ((List Carton))
  | 0=>fun _ _=>none
  | n + 1=>d_spec_CartonsOf_L1_B fu Af Ad Ab Ag Ac Ae Aa (d_spec_CartonsOf_L1 fu Af Ad Ab Ag Ac Ae Aa n)

def d_spec_CartonsOf_J3 (fu:Nat) (Af:List Carton → Int → Option ((List Carton))) (Ad:Int) (Aa:(List (List Int))) (Ah:List Carton) (Ab:Int) (Ae:Typ):Option ((List Carton)) :=
  obind (ix Aa Ab) fun Ag=>obind (d_spec_SortUp fu Ag) fun Ac=>d_spec_CartonsOf_L1 fu Af Ad Aa Ah Ab Ae Ac fu (([]:List Int)) 0

def d_spec_CartonsOf_L2_B (fu:Nat) (Ae:List Carton → Int → Option ((List Carton))) (r1:Request) (Ac:Int) (Aa:(List (List Int))) (Ag:List Carton → Int → Option ((List Carton))) (Ad:List Carton) (Ab:Int):Option ((List Carton)) :=
  bif (decide (Ab < ((Aa.length:Int)))) then obind (ix Aa Ab) fun Af=>obind (d_spec_Cheapest fu r1 Af) fun Ah=>d_spec_CartonsOf_J3 fu Ag Ac Aa Ad Ab Ah.1 else d_spec_CartonsOf_J1 fu Ae Ac Ad
def d_spec_CartonsOf_L2 (fu:Nat) (Aa:List Carton → Int → Option ((List Carton))) (r1:Request) (Ac:Int) (Ab:(List (List Int))):Nat → List Carton → Int → Option ((List Carton))
  | 0=>fun _ _=>none
  | n + 1=>d_spec_CartonsOf_L2_B fu Aa r1 Ac Ab (d_spec_CartonsOf_L2 fu Aa r1 Ac Ab n)

def d_spec_CartonsOf_L3_B (fu:Nat)  (r1:Request) (Ad:(List (List Int))) (Ac:List Carton → Int → Option ((List Carton))) (Ab:List Carton) (Aa:Int):Option ((List Carton)) :=
  bif (decide (Aa < ((Ad.length:Int)))) then obind (d_spec_UnitsOf fu r1 Aa) fun Af=>obind (d_spec_PackWay fu r1 Af) fun Ae=>d_spec_CartonsOf_L2 fu Ac r1 Aa Ae fu Ab 0 else some (Ab)
def d_spec_CartonsOf_L3 (fu:Nat)  (r1:Request) (Aa:(List (List Int))):Nat → List Carton → Int → Option ((List Carton))
  | 0=>fun _ _=>none
  | n + 1=>d_spec_CartonsOf_L3_B fu r1 Aa (d_spec_CartonsOf_L3 fu r1 Aa n)

def d_spec_CartonsOf (fu:Nat) (r1:Request):Option ((List Carton)) :=
  obind (d_spec_GroupsOf fu r1) fun Aa=>d_spec_CartonsOf_L3 fu r1 Aa fu (([]:List Carton)) 0

def d_spec_TypeById_L1_B (fu:Nat)  (r1:Request) (Ac:Int) (k1:Int → Option (Typ × Bool)) (Aa:Int):Option (Typ × Bool) :=
  bif (decide (Aa < ((r1.fTypes.length:Int)))) then obind (ix r1.fTypes Aa) fun Ab=>bif (Ab.fId == Ac) then obind (ix r1.fTypes Aa) fun Ad=>some (Ab,true) else k1 (w64 (Aa + 1)) else some ((⟨0,0,0,0,0,0,0⟩:Typ),false)
def d_spec_TypeById_L1 (fu:Nat)  (r1:Request) (Aa:Int):Nat → Int → Option (Typ × Bool)
  | 0=>fun _=>none
  | n + 1=>d_spec_TypeById_L1_B fu r1 Aa (d_spec_TypeById_L1 fu r1 Aa n)

def d_spec_TypeById (fu:Nat) (r1:Request) (Aa:Int):Option (Typ × Bool) :=
  d_spec_TypeById_L1 fu r1 Aa fu 0

def d_spec_Units (fu:Nat) (r1:Request):Option ((List Int)) :=
  obind (d_spec_Class fu r1) fun Aa=>bif (Aa != 0) then some (([]:List Int)) else obind (d_spec_l6Units fu r1) fun Ab=>some (Ab)

def d_spec_GramOf_J1 (fu:Nat) (k7:Int → Int → Option (Int)) (Ab:Int) (Aa:Int):Option (Int) :=
  k7 Aa (w64 (Ab + 1))

def d_spec_GramOf_J2 (fu:Nat) (k7:Int → Int → Option (Int)) (Aa:Int) (Ab:Int) (Ac:Item):Option (Int) :=
  d_spec_GramOf_J1 fu k7 Ab (w64 (Aa + Ac.fGram))

def d_spec_GramOf_L1_B (fu:Nat)  (r1:Request) (Ac:List Int) (Af:(List Int)) (k7:Int → Int → Option (Int)) (Ab:Int) (Aa:Int):Option (Int) :=
  bif (decide (Aa < ((Ac.length:Int)))) then obind (ix Ac Aa) fun Ad=>obind (d_spec_l6Item fu r1 Af Ad) fun Ae=>d_spec_GramOf_J2 fu k7 Ab Aa Ae.1 else some (Ab)
def d_spec_GramOf_L1 (fu:Nat)  (r1:Request) (Ab:List Int) (Aa:(List Int)):Nat → Int → Int → Option (Int)
  | 0=>fun _ _=>none
  | n + 1=>d_spec_GramOf_L1_B fu r1 Ab Aa (d_spec_GramOf_L1 fu r1 Ab Aa n)

def d_spec_GramOf (fu:Nat) (r1:Request) (Ab:List Int):Option (Int) :=
  obind (d_spec_Units fu r1) fun Aa=>d_spec_GramOf_L1 fu r1 Ab Aa fu 0 0

def d_spec_Gross_J1 (fu:Nat) (r1:Request) (x5:Carton) (Aa:Typ × Bool)  : Option (Int) :=
  obind (d_spec_GramOf fu r1 x5.fUnits) fun Ab=>some (w64 (Aa.1.fTare + Ab))

def d_spec_Gross (fu:Nat) (r1:Request) (x5:Carton):Option (Int) :=
  obind (d_spec_TypeById fu r1 x5.fType) fun Aa=>obind (d_spec_Class fu r1) fun Ab=>bif (Ab != 0) then some (0) else bif (!Aa.2) then some (0) else d_spec_Gross_J1 fu r1 x5 Aa

def d_spec_BoxOf_J1 (fu:Nat) (r1:Request) (x5:Carton) (Aa:Typ × Bool)  : Option (Box) :=
  obind (d_spec_Gross fu r1 x5) fun Ab=>some ((⟨Aa.1.fW,Aa.1.fD,Aa.1.fH,Ab⟩:Box))

def d_spec_BoxOf (fu:Nat) (r1:Request) (x5:Carton):Option (Box) :=
  obind (d_spec_TypeById fu r1 x5.fType) fun Aa=>obind (d_spec_Class fu r1) fun Ab=>bif (Ab != 0) then some ((⟨0,0,0,0⟩:Box)) else bif (!Aa.2) then some ((⟨0,0,0,0⟩:Box)) else d_spec_BoxOf_J1 fu r1 x5 Aa

def d_spec_BoxesOk_J1 (fu:Nat) (k3:Int → Option (Bool)) (Aa:Int)  : Option (Bool) :=
  k3 (w64 (Aa + 1))

def d_spec_BoxesOk_L1_B (fu:Nat)  (p1:Pallet) (Ac:List Box) (k3:Int → Option (Bool)) (Ab:Int):Option (Bool) :=
  bif (decide (Ab < ((Ac.length:Int)))) then obind (ix Ac Ab) fun Aa=>obind (d_spec_l1In fu Aa.fW 1 p1.fW) fun Af=>bif (!Af) then some (false) else obind (d_spec_l1In fu Aa.fD 1 p1.fD) fun Ae=>bif (!Ae) then some (false) else obind (d_spec_l1In fu Aa.fH 1 p1.fH) fun Ag=>bif (!Ag) then some (false) else obind (d_spec_l1In fu Aa.fGram 1 p1.fGram) fun Ad=>bif (!Ad) then some (false) else d_spec_BoxesOk_J1 fu k3 Ab else some (true)
def d_spec_BoxesOk_L1 (fu:Nat)  (p1:Pallet) (Aa:List Box):Nat → Int → Option (Bool)
  | 0=>fun _=>none
  | n + 1=>d_spec_BoxesOk_L1_B fu p1 Aa (d_spec_BoxesOk_L1 fu p1 Aa n)

def d_spec_BoxesOk (fu:Nat) (p1:Pallet) (Aa:List Box):Option (Bool) :=
  obind (d_spec_PalletOk fu p1) fun Ab=>bif (!Ab) then some (false) else d_spec_BoxesOk_L1 fu p1 Aa fu 0

def d_spec_l1Max (fu:Nat) (a1:Int) (b2:Int):Option (Int) :=
  bif (decide (a1 > b2)) then some (a1) else some (b2)

def d_spec_l10Add (fu:Nat) (Aa:Shelf) (Ac:Int) (b6:Box):Option (Shelf) :=
  obind (apnd 8 (([]:List Int)) Aa.fList) fun Ad=>obind (apnd 8 Ad (([Ac]:List Int))) fun Ab=>obind (d_spec_l1Max fu Aa.fD b6.fD) fun Af=>obind (d_spec_l1Max fu Aa.fH b6.fH) fun Ae=>some ((⟨Ab,w64 (Aa.fW + b6.fW),Af,Ae,w64 (Aa.fGram + b6.fGram)⟩:Shelf))

def d_spec_Shelves_J1 (fu:Nat) (k4:List Shelf → Int → Option ((List Shelf))) (Ab:Int) (Aa:List Shelf):Option ((List Shelf)) :=
  k4 Aa (w64 (Ab + 1))

def d_spec_Shelves_L1_B (fu:Nat)  (p1:Pallet) (Ao:List Box) (Ac:(List Int)) (k4:List Shelf → Int → Option ((List Shelf))) (Aa:List Shelf) (Ab:Int):Option ((List Shelf)) :=
  bif (decide (Ab < ((Ac.length:Int)))) then obind (ix Ac Ab) fun Ae=>obind (ix Ao Ae) fun Ad=>bif (decide (((Aa.length:Int)) > 0)) then obind (ix Aa (w64 (((Aa.length:Int)) - 1))) fun Af=>bif (decide ((w64 (Af.fW + Ad.fW)) ≤ p1.fW)) then obind (ix Aa (w64 (((Aa.length:Int)) - 1))) fun Ap=>bif (decide ((w64 (Af.fGram + Ad.fGram)) ≤ p1.fGram)) then obind (ix Aa (w64 (((Aa.length:Int)) - 1))) fun At=>obind (ix Ac Ab) fun Aq=>obind (d_spec_l10Add fu Af Ae Ad) fun Ai=>obind (ix Aa (w64 (((Aa.length:Int)) - 1))) fun Au=>d_spec_Shelves_J1 fu k4 Ab (setx Aa (w64 (((Aa.length:Int)) - 1)) Ai) else obind (ix Ac Ab) fun Ar=>obind (d_spec_l10Add fu ((⟨[],0,0,0,0⟩:Shelf)) Ae Ad) fun Ak=>obind (apnd 56 Aa [Ak]) fun Aj=>d_spec_Shelves_J1 fu k4 Ab Aj else obind (ix Ac Ab) fun Av=>obind (d_spec_l10Add fu ((⟨[],0,0,0,0⟩:Shelf)) Ae Ad) fun Al=>obind (apnd 56 Aa [Al]) fun Ah=>d_spec_Shelves_J1 fu k4 Ab Ah else obind (ix Ac Ab) fun As=>obind (d_spec_l10Add fu ((⟨[],0,0,0,0⟩:Shelf)) Ae Ad) fun Am=>obind (apnd 56 Aa [Am]) fun Ag=>d_spec_Shelves_J1 fu k4 Ab Ag else some (Aa)
def d_spec_Shelves_L1 (fu:Nat)  (p1:Pallet) (Ab:List Box) (Aa:(List Int)):Nat → List Shelf → Int → Option ((List Shelf))
  | 0=>fun _ _=>none
  | n + 1=>d_spec_Shelves_L1_B fu p1 Ab Aa (d_spec_Shelves_L1 fu p1 Ab Aa n)

def d_spec_Shelves_L2_B (fu:Nat)  (p1:Pallet) (Ab:List Box) (k1:List Int → Int → Option ((List Shelf))) (Ac:List Int) (Aa:Int):Option ((List Shelf)) :=
  bif (decide (Aa < ((Ab.length:Int)))) then obind (ix Ab Aa) fun Af=>obind (apnd 8 Ac (([Af.fD]:List Int))) fun Ae=>k1 Ae (w64 (Aa + 1)) else obind (d_spec_SortDown fu Ac) fun Ad=>d_spec_Shelves_L1 fu p1 Ab Ad fu (([]:List Shelf)) 0
def d_spec_Shelves_L2 (fu:Nat)  (p1:Pallet) (Aa:List Box):Nat → List Int → Int → Option ((List Shelf))
  | 0=>fun _ _=>none
  | n + 1=>d_spec_Shelves_L2_B fu p1 Aa (d_spec_Shelves_L2 fu p1 Aa n)

def d_spec_Shelves (fu:Nat) (p1:Pallet) (Aa:List Box):Option ((List Shelf)) :=
  obind (d_spec_BoxesOk fu p1 Aa) fun Ab=>bif (!Ab) then some (([]:List Shelf)) else d_spec_Shelves_L2 fu p1 Aa fu (([]:List Int)) 0

def d_spec_l11Ok (fu:Nat) (p1:Pallet) (d2:Int) (h3:Int) (Aa:Int):Option (Bool) :=
  obind (d_spec_l1In fu d2 1 p1.fD) fun x8=>bif x8 then obind (d_spec_l1In fu h3 1 p1.fH) fun Ac=>bif Ac then obind (d_spec_l1In fu Aa 1 p1.fGram) fun Ab=>some (Ab) else some (false) else some (false)

def d_spec_ShelvesOk_L1_B (fu:Nat)  (p1:Pallet) (Ab:List Shelf) (k1:Int → Option (Bool)) (Aa:Int):Option (Bool) :=
  bif (decide (Aa < ((Ab.length:Int)))) then obind (ix Ab Aa) fun Ac=>obind (ix Ab Aa) fun Af=>obind (ix Ab Aa) fun Ae=>obind (d_spec_l11Ok fu p1 Ac.fD Ac.fH Ac.fGram) fun Ad=>bif (!Ad) then some (false) else k1 (w64 (Aa + 1)) else some (true)
def d_spec_ShelvesOk_L1 (fu:Nat)  (p1:Pallet) (Aa:List Shelf):Nat → Int → Option (Bool)
  | 0=>fun _=>none
  | n + 1=>d_spec_ShelvesOk_L1_B fu p1 Aa (d_spec_ShelvesOk_L1 fu p1 Aa n)

def d_spec_ShelvesOk (fu:Nat) (p1:Pallet) (Aa:List Shelf):Option (Bool) :=
  obind (d_spec_PalletOk fu p1) fun Ab=>bif (!Ab) then some (false) else d_spec_ShelvesOk_L1 fu p1 Aa fu 0

def d_spec_LayersOf_J1 (fu:Nat) (k7:List Layer → Int → Option ((List Layer))) (Ab:Int) (Aa:List Layer):Option ((List Layer)) :=
  k7 Aa (w64 (Ab + 1))

def d_spec_LayersOf_J2 (fu:Nat) (k7:List Layer → Int → Option ((List Layer))) (Ae:Int) (Ad:Shelf) (Ac:List Layer) (Ab:Int):Option ((List Layer)) :=
  obind (ix Ac (w64 (Ab - 1))) fun Aa=>obind (apnd 8 (([]:List Int)) Aa.fShelves) fun Ag=>obind (apnd 8 Ag (([Ae]:List Int))) fun Af=>obind (d_spec_l1Max fu Aa.fH Ad.fH) fun Ah=>obind (ix Ac (w64 (Ab - 1))) fun Ai=>d_spec_LayersOf_J1 fu k7 Ae (setx Ac (w64 (Ab - 1)) ((⟨Af,w64 (Aa.fD + Ad.fD),Ah,w64 (Aa.fGram + Ad.fGram)⟩:Layer)))

def d_spec_LayersOf_L1_B (fu:Nat)  (p1:Pallet) (Ad:List Shelf) (k7:List Layer → Int → Option ((List Layer))) (Aa:List Layer) (Ac:Int):Option ((List Layer)) :=
  bif (decide (Ac < ((Ad.length:Int)))) then obind (ix Ad Ac) fun Ab=>bif (((Aa.length:Int)) == 0) then obind (apnd 48 Aa [(⟨[],0,0,0⟩:Layer)]) fun Af=>d_spec_LayersOf_J2 fu k7 Ac Ab Af (w64 (((Aa.length:Int)) + 1)) else obind (ix Aa (w64 (((Aa.length:Int)) - 1))) fun Ae=>bif (decide ((w64 (Ae.fD + Ab.fD)) > p1.fD)) then obind (apnd 48 Aa [(⟨[],0,0,0⟩:Layer)]) fun Ag=>d_spec_LayersOf_J2 fu k7 Ac Ab Ag (w64 (((Aa.length:Int)) + 1)) else obind (ix Aa (w64 (((Aa.length:Int)) - 1))) fun Ai=>bif (decide ((w64 (Ae.fGram + Ab.fGram)) > p1.fGram)) then obind (apnd 48 Aa [(⟨[],0,0,0⟩:Layer)]) fun Ah=>d_spec_LayersOf_J2 fu k7 Ac Ab Ah (w64 (((Aa.length:Int)) + 1)) else d_spec_LayersOf_J2 fu k7 Ac Ab Aa ((Aa.length:Int)) else some (Aa)
def d_spec_LayersOf_L1 (fu:Nat)  (p1:Pallet) (Aa:List Shelf):Nat → List Layer → Int → Option ((List Layer))
  | 0=>fun _ _=>none
  | n + 1=>d_spec_LayersOf_L1_B fu p1 Aa (d_spec_LayersOf_L1 fu p1 Aa n)

def d_spec_LayersOf (fu:Nat) (p1:Pallet) (Aa:List Shelf):Option ((List Layer)) :=
  obind (d_spec_ShelvesOk fu p1 Aa) fun Ab=>bif (!Ab) then some (([]:List Layer)) else d_spec_LayersOf_L1 fu p1 Aa fu (([]:List Layer)) 0

def d_spec_StacksOk_L1_B (fu:Nat)  (p1:Pallet) (Ab:List Layer) (k1:Int → Option (Bool)) (Aa:Int):Option (Bool) :=
  bif (decide (Aa < ((Ab.length:Int)))) then obind (ix Ab Aa) fun Ac=>obind (ix Ab Aa) fun Af=>obind (ix Ab Aa) fun Ae=>obind (d_spec_l11Ok fu p1 Ac.fD Ac.fH Ac.fGram) fun Ad=>bif (!Ad) then some (false) else k1 (w64 (Aa + 1)) else some (true)
def d_spec_StacksOk_L1 (fu:Nat)  (p1:Pallet) (Aa:List Layer):Nat → Int → Option (Bool)
  | 0=>fun _=>none
  | n + 1=>d_spec_StacksOk_L1_B fu p1 Aa (d_spec_StacksOk_L1 fu p1 Aa n)

def d_spec_StacksOk (fu:Nat) (p1:Pallet) (Aa:List Layer):Option (Bool) :=
  obind (d_spec_PalletOk fu p1) fun Ab=>bif (!Ab) then some (false) else d_spec_StacksOk_L1 fu p1 Aa fu 0

def d_spec_LoadsOf_J1 (fu:Nat) (k7:List Load → Int → Option ((List Load))) (Aa:Int) (Ab:List Load):Option ((List Load)) :=
  k7 Ab (w64 (Aa + 1))

def d_spec_LoadsOf_J2 (fu:Nat) (k7:List Load → Int → Option ((List Load))) (Ad:Int) (Ae:Layer) (Ac:List Load) (Aa:Int):Option ((List Load)) :=
  obind (ix Ac (w64 (Aa - 1))) fun Ab=>obind (apnd 8 (([]:List Int)) Ab.fLayers) fun Af=>obind (apnd 8 Af (([Ad]:List Int))) fun Ag=>obind (ix Ac (w64 (Aa - 1))) fun Ah=>d_spec_LoadsOf_J1 fu k7 Ad (setx Ac (w64 (Aa - 1)) ((⟨Ag,w64 (Ab.fH + Ae.fH),w64 (Ab.fGram + Ae.fGram)⟩:Load)))

def d_spec_LoadsOf_L1_B (fu:Nat)  (p1:Pallet) (Ad:List Layer) (k7:List Load → Int → Option ((List Load))) (Aa:List Load) (Ab:Int):Option ((List Load)) :=
  bif (decide (Ab < ((Ad.length:Int)))) then obind (ix Ad Ab) fun Ac=>bif (((Aa.length:Int)) == 0) then obind (apnd 40 Aa [(⟨[],0,0⟩:Load)]) fun Ah=>d_spec_LoadsOf_J2 fu k7 Ab Ac Ah (w64 (((Aa.length:Int)) + 1)) else obind (ix Aa (w64 (((Aa.length:Int)) - 1))) fun Ae=>bif (decide ((w64 (Ae.fH + Ac.fH)) > p1.fH)) then obind (apnd 40 Aa [(⟨[],0,0⟩:Load)]) fun Ag=>d_spec_LoadsOf_J2 fu k7 Ab Ac Ag (w64 (((Aa.length:Int)) + 1)) else obind (ix Aa (w64 (((Aa.length:Int)) - 1))) fun Ai=>bif (decide ((w64 (Ae.fGram + Ac.fGram)) > p1.fGram)) then obind (apnd 40 Aa [(⟨[],0,0⟩:Load)]) fun Af=>d_spec_LoadsOf_J2 fu k7 Ab Ac Af (w64 (((Aa.length:Int)) + 1)) else d_spec_LoadsOf_J2 fu k7 Ab Ac Aa ((Aa.length:Int)) else some (Aa)
def d_spec_LoadsOf_L1 (fu:Nat)  (p1:Pallet) (Aa:List Layer):Nat → List Load → Int → Option ((List Load))
  | 0=>fun _ _=>none
  | n + 1=>d_spec_LoadsOf_L1_B fu p1 Aa (d_spec_LoadsOf_L1 fu p1 Aa n)

def d_spec_LoadsOf (fu:Nat) (p1:Pallet) (Aa:List Layer):Option ((List Load)) :=
  obind (d_spec_StacksOk fu p1 Aa) fun Ab=>bif (!Ab) then some (([]:List Load)) else d_spec_LoadsOf_L1 fu p1 Aa fu (([]:List Load)) 0

def d_spec_SpotsOf_L1_B (fu:Nat) (Ai:List Spot → Int → Int → Option ((List Spot))) (Aj:List Box) (Al:Int) (Ak:Int) (Af:Int) (Ah:Int) (Ab:Shelf) (Ag:List Spot → Int → Int → Option ((List Spot))) (Ac:List Spot) (Ae:Int) (Aa:Int):Option ((List Spot)) :=
  bif (decide (Aa < ((Ab.fList.length:Int)))) then obind (ix Ab.fList Aa) fun Ad=>obind (ix Ac Ad) fun Ap=>obind (ix Ab.fList Aa) fun Ao=>obind (ix Aj Ad) fun Am=>Ag (setx Ac Ad ((⟨Al,Ae,Af,Ak⟩:Spot))) (w64 (Ae + Am.fW)) (w64 (Aa + 1)) else Ai Ac (w64 (Af + Ab.fD)) (w64 (Ah + 1))
def d_spec_SpotsOf_L1 (fu:Nat) (Ac:List Spot → Int → Int → Option ((List Spot))) (Ab:List Box) (Ae:Int) (Af:Int) (Ag:Int) (Aa:Int) (Ad:Shelf):Nat → List Spot → Int → Int → Option ((List Spot))
  | 0=>fun _ _ _=>none
  | n + 1=>d_spec_SpotsOf_L1_B fu Ac Ab Ae Af Ag Aa Ad (d_spec_SpotsOf_L1 fu Ac Ab Ae Af Ag Aa Ad n)

def d_spec_SpotsOf_L2_B (fu:Nat) (Aj:List Spot → Int → Int → Option ((List Spot))) (Ah:List Box) (Ag:(List Shelf)) (Ak:Int) (Ad:Int) (Af:Int) (Ab:Layer) (Ai:List Spot → Int → Int → Option ((List Spot))) (Ac:List Spot) (Ae:Int) (Aa:Int):Option ((List Spot)) :=
  bif (decide (Aa < ((Ab.fShelves.length:Int)))) then obind (ix Ab.fShelves Aa) fun Am=>obind (ix Ag Am) fun Al=>d_spec_SpotsOf_L1 fu Ai Ah Ak Ad Ae Aa Al fu Ac 0 0 else Aj Ac (w64 (Ad + Ab.fH)) (w64 (Af + 1))
def d_spec_SpotsOf_L2 (fu:Nat) (Ad:List Spot → Int → Int → Option ((List Spot))) (Ac:List Box) (Ab:(List Shelf)) (Ae:Int) (Af:Int) (Aa:Int) (Ag:Layer):Nat → List Spot → Int → Int → Option ((List Spot))
  | 0=>fun _ _ _=>none
  | n + 1=>d_spec_SpotsOf_L2_B fu Ad Ac Ab Ae Af Aa Ag (d_spec_SpotsOf_L2 fu Ad Ac Ab Ae Af Aa Ag n)

def d_spec_SpotsOf_L3_B (fu:Nat) (Ai:List Spot → Int → Option ((List Spot))) (Ag:List Box) (Af:(List Shelf)) (Ak:(List Layer)) (Ae:(List Load)) (Aa:Int) (Ah:List Spot → Int → Int → Option ((List Spot))) (Ad:List Spot) (Al:Int) (Ab:Int):Option ((List Spot)) :=
  obind (ix Ae Aa) fun Ac=>bif (decide (Ab < ((Ac.fLayers.length:Int)))) then obind (ix Ae Aa) fun Ao=>obind (ix Ac.fLayers Ab) fun Aj=>obind (ix Ak Aj) fun Am=>d_spec_SpotsOf_L2 fu Ah Ag Af Aa Al Ab Am fu Ad 0 0 else Ai Ad (w64 (Aa + 1))
def d_spec_SpotsOf_L3 (fu:Nat) (Ac:List Spot → Int → Option ((List Spot))) (Ab:List Box) (Aa:(List Shelf)) (Af:(List Layer)) (Ae:(List Load)) (Ad:Int):Nat → List Spot → Int → Int → Option ((List Spot))
  | 0=>fun _ _ _=>none
  | n + 1=>d_spec_SpotsOf_L3_B fu Ac Ab Aa Af Ae Ad (d_spec_SpotsOf_L3 fu Ac Ab Aa Af Ae Ad n)

def d_spec_SpotsOf_L4_B (fu:Nat)  (Ae:List Box) (Ad:(List Shelf)) (Ag:(List Layer)) (Ac:(List Load)) (Af:List Spot → Int → Option ((List Spot))) (Aa:List Spot) (Ab:Int):Option ((List Spot)) :=
  bif (decide (Ab < ((Ac.length:Int)))) then d_spec_SpotsOf_L3 fu Af Ae Ad Ag Ac Ab fu Aa 0 0 else some (Aa)
def d_spec_SpotsOf_L4 (fu:Nat)  (Ad:List Box) (Ac:(List Shelf)) (Ab:(List Layer)) (Aa:(List Load)):Nat → List Spot → Int → Option ((List Spot))
  | 0=>fun _ _=>none
  | n + 1=>d_spec_SpotsOf_L4_B fu Ad Ac Ab Aa (d_spec_SpotsOf_L4 fu Ad Ac Ab Aa n)

def d_spec_SpotsOf (fu:Nat) (p1:Pallet) (Aa:List Box):Option ((List Spot)) :=
  obind (mk 32 (⟨(0:Int),(0:Int),(0:Int),(0:Int)⟩:Spot) ((Aa.length:Int))) fun Af=>obind (d_spec_BoxesOk fu p1 Aa) fun Ad=>bif (!Ad) then some (([]:List Spot)) else obind (d_spec_Shelves fu p1 Aa) fun Ab=>obind (d_spec_LayersOf fu p1 Ab) fun Ac=>obind (d_spec_LoadsOf fu p1 Ac) fun Ae=>d_spec_SpotsOf_L4 fu Aa Ab Ac Ae fu Af 0

def d_spec_Pallets_J1 (fu:Nat) (k3:Int → Int → Option (Int)) (Aa:Int) (Ab:Int):Option (Int) :=
  k3 Ab (w64 (Aa + 1))

def d_spec_Pallets_L1_B (fu:Nat)  (Ab:List Spot) (k3:Int → Int → Option (Int)) (Ac:Int) (Aa:Int):Option (Int) :=
  bif (decide (Aa < ((Ab.length:Int)))) then obind (ix Ab Aa) fun Ad=>obind (d_spec_l1In fu Ad.fPallet 0 999999) fun Ae=>bif Ae then obind (ix Ab Aa) fun Ag=>obind (d_spec_l1Max fu Ac (w64 (Ad.fPallet + 1))) fun Af=>d_spec_Pallets_J1 fu k3 Aa Af else d_spec_Pallets_J1 fu k3 Aa Ac else some (Ac)
def d_spec_Pallets_L1 (fu:Nat)  (Aa:List Spot):Nat → Int → Int → Option (Int)
  | 0=>fun _ _=>none
  | n + 1=>d_spec_Pallets_L1_B fu Aa (d_spec_Pallets_L1 fu Aa n)

def d_spec_Pallets (fu:Nat) (Aa:List Spot):Option (Int) :=
  d_spec_Pallets_L1 fu Aa fu 0 0

def d_spec_PlanOf_J1 (fu:Nat) (Ab:List Box → Int → Option (Plan × Bool)) (Ac:Int) (Aa:List Box):Option (Plan × Bool) :=
  Ab Aa (w64 (Ac + 1))

def d_spec_PlanOf_L1_B (fu:Nat) (Ai:List Spot → Int → Int → Option (Plan × Bool)) (Ad:Int) (Ag:Int) (Ac:(List Spot)) (Af:List Spot → Int → Option (Plan × Bool)) (Ae:List Spot) (Ab:Int):Option (Plan × Bool) :=
  bif (decide (Ab < ((Ac.length:Int)))) then obind (ix Ac Ab) fun Aa=>obind (apnd 32 Ae (([(⟨w64 (Aa.fPallet + Ad),Aa.fX,Aa.fY,Aa.fZ⟩:Spot)]:List Spot))) fun Ah=>Af Ah (w64 (Ab + 1)) else obind (d_spec_Pallets fu Ac) fun Aj=>Ai Ae (w64 (Ad + Aj)) (w64 (Ag + 1))
def d_spec_PlanOf_L1 (fu:Nat) (Aa:List Spot → Int → Int → Option (Plan × Bool)) (Ac:Int) (Ab:Int) (Ad:(List Spot)):Nat → List Spot → Int → Option (Plan × Bool)
  | 0=>fun _ _=>none
  | n + 1=>d_spec_PlanOf_L1_B fu Aa Ac Ab Ad (d_spec_PlanOf_L1 fu Aa Ac Ab Ad n)

def d_spec_PlanOf_L2_B (fu:Nat) (Ai:List Spot → Int → Int → Option (Plan × Bool)) (r1:Request) (Ac:(List Carton)) (Ag:List Spot) (Al:Int) (Ad:Int) (Ae:List Box → Int → Option (Plan × Bool)) (Ab:List Box) (Aa:Int):Option (Plan × Bool) :=
  bif (decide (Aa < ((Ac.length:Int)))) then obind (ix Ac Aa) fun Af=>bif (Af.fGroup == Ad) then obind (ix Ac Aa) fun Am=>obind (d_spec_BoxOf fu r1 Af) fun Ak=>obind (apnd 32 Ab (([Ak]:List Box))) fun Ah=>d_spec_PlanOf_J1 fu Ae Aa Ah else d_spec_PlanOf_J1 fu Ae Aa Ab else obind (d_spec_SpotsOf fu r1.fPallet Ab) fun Aj=>d_spec_PlanOf_L1 fu Ai Al Ad Aj fu Ag 0
def d_spec_PlanOf_L2 (fu:Nat) (Ad:List Spot → Int → Int → Option (Plan × Bool)) (r1:Request) (Ab:(List Carton)) (Aa:List Spot) (Ae:Int) (Ac:Int):Nat → List Box → Int → Option (Plan × Bool)
  | 0=>fun _ _=>none
  | n + 1=>d_spec_PlanOf_L2_B fu Ad r1 Ab Aa Ae Ac (d_spec_PlanOf_L2 fu Ad r1 Ab Aa Ae Ac n)

def d_spec_PlanOf_L3_B (fu:Nat)  (r1:Request) (Ab:(List Carton)) (Ad:(List (List Int))) (Ae:List Spot → Int → Int → Option (Plan × Bool)) (Aa:List Spot) (Af:Int) (Ac:Int):Option (Plan × Bool) :=
  bif (decide (Ac < ((Ad.length:Int)))) then d_spec_PlanOf_L2 fu Ae r1 Ab Aa Af Ac fu (([]:List Box)) 0 else some ((⟨Ab,Aa⟩:Plan),true)
def d_spec_PlanOf_L3 (fu:Nat)  (r1:Request) (Aa:(List Carton)) (Ab:(List (List Int))):Nat → List Spot → Int → Int → Option (Plan × Bool)
  | 0=>fun _ _ _=>none
  | n + 1=>d_spec_PlanOf_L3_B fu r1 Aa Ab (d_spec_PlanOf_L3 fu r1 Aa Ab n)

def d_spec_PlanOf (fu:Nat) (r1:Request):Option (Plan × Bool) :=
  obind (d_spec_Class fu r1) fun Ab=>bif (Ab != 0) then some ((⟨[],[]⟩:Plan),false) else obind (d_spec_CartonsOf fu r1) fun Aa=>obind (d_spec_GroupsOf fu r1) fun Ac=>d_spec_PlanOf_L3 fu r1 Aa Ac fu (([]:List Spot)) 0 0

def d_spec_l13Carton_J1 (fu:Nat) (k4:Int → Option (Bool)) (Aa:Int)  : Option (Bool) :=
  k4 (w64 (Aa + 1))

def d_spec_l13Carton_L1_B (fu:Nat)  (x1:Carton) (k4:Int → Option (Bool)) (Aa:Int):Option (Bool) :=
  bif (decide (Aa < ((x1.fUnits.length:Int)))) then obind (ix x1.fUnits Aa) fun Ab=>obind (d_spec_l1In fu Ab 0 999) fun Ad=>bif (!Ad) then some (false) else bif (decide (Aa > 0)) then obind (ix x1.fUnits Aa) fun Ae=>obind (ix x1.fUnits (w64 (Aa - 1))) fun Ac=>bif (decide (Ab ≤ Ac)) then some (false) else d_spec_l13Carton_J1 fu k4 Aa else d_spec_l13Carton_J1 fu k4 Aa else some (true)
def d_spec_l13Carton_L1 (fu:Nat)  (x1:Carton):Nat → Int → Option (Bool)
  | 0=>fun _=>none
  | n + 1=>d_spec_l13Carton_L1_B fu x1 (d_spec_l13Carton_L1 fu x1 n)

def d_spec_l13Carton_J2 (fu:Nat) (x1:Carton)  : Option (Bool) :=
  d_spec_l13Carton_L1 fu x1 fu 0

def d_spec_l13Carton (fu:Nat) (x1:Carton):Option (Bool) :=
  obind (d_spec_l2Id fu x1.fType) fun Ab=>bif (!Ab) then some (false) else obind (d_spec_l1In fu x1.fGroup 0 3) fun Aa=>bif (!Aa) then some (false) else bif (decide (((x1.fUnits.length:Int)) > 100)) then some (false) else d_spec_l13Carton_J2 fu x1

def d_spec_PlanOk_J1 (fu:Nat) (k4:Int → Option (Bool)) (Aa:Int)  : Option (Bool) :=
  k4 (w64 (Aa + 1))

def d_spec_PlanOk_L1_B (fu:Nat)  (x1:Plan) (k4:Int → Option (Bool)) (Ab:Int):Option (Bool) :=
  bif (decide (Ab < ((x1.fCartons.length:Int)))) then obind (ix x1.fSpots Ab) fun Aa=>obind (ix x1.fCartons Ab) fun Ae=>obind (d_spec_l13Carton fu Ae) fun Ad=>bif (!Ad) then some (false) else obind (d_spec_l1In fu Aa.fPallet 0 2000) fun Ag=>bif (!Ag) then some (false) else obind (d_spec_l1In fu Aa.fX 0 2000) fun Ah=>bif (!Ah) then some (false) else obind (d_spec_l1In fu Aa.fY 0 2000) fun Ac=>bif (!Ac) then some (false) else obind (d_spec_l1In fu Aa.fZ 0 2000) fun Af=>bif (!Af) then some (false) else d_spec_PlanOk_J1 fu k4 Ab else some (true)
def d_spec_PlanOk_L1 (fu:Nat)  (x1:Plan):Nat → Int → Option (Bool)
  | 0=>fun _=>none
  | n + 1=>d_spec_PlanOk_L1_B fu x1 (d_spec_PlanOk_L1 fu x1 n)

def d_spec_PlanOk_J2 (fu:Nat) (x1:Plan)  : Option (Bool) :=
  d_spec_PlanOk_L1 fu x1 fu 0

def d_spec_PlanOk (fu:Nat) (x1:Plan):Option (Bool) :=
  bif (((x1.fCartons.length:Int)) != ((x1.fSpots.length:Int))) then some (false) else bif (decide (((x1.fCartons.length:Int)) > 100)) then some (false) else d_spec_PlanOk_J2 fu x1

def d_spec_l14Line_L1_B (fu:Nat)  (Ab:List Int) (k1:ByteArray → Int → Option (ByteArray)) (Ac:ByteArray) (Aa:Int):Option (ByteArray) :=
  bif (decide (Aa < ((Ab.length:Int)))) then obind (scat Ac ((⟨#[32]⟩:ByteArray))) fun Ae=>obind (ix Ab Aa) fun Af=>obind (d_spec_Digits fu Af) fun Ag=>obind (scat Ae Ag) fun Ad=>k1 Ad (w64 (Aa + 1)) else some (Ac)
def d_spec_l14Line_L1 (fu:Nat)  (Aa:List Int):Nat → ByteArray → Int → Option (ByteArray)
  | 0=>fun _ _=>none
  | n + 1=>d_spec_l14Line_L1_B fu Aa (d_spec_l14Line_L1 fu Aa n)

def d_spec_l14Line (fu:Nat) (x1:Carton) (Aa:Spot):Option (ByteArray) :=
  obind (apnd 8 (([x1.fType,x1.fGroup,Aa.fPallet,Aa.fX,Aa.fY,Aa.fZ]:List Int)) x1.fUnits) fun Ab=>d_spec_l14Line_L1 fu Ab fu ((⟨#[99,97,114,116,111,110]⟩:ByteArray)) 0

def d_spec_PlanText_L1_B (fu:Nat)  (x1:Plan) (k1:ByteArray → Int → Option (ByteArray)) (Ab:ByteArray) (Aa:Int):Option (ByteArray) :=
  bif (decide (Aa < ((x1.fCartons.length:Int)))) then obind (ix x1.fCartons Aa) fun Ag=>obind (ix x1.fSpots Aa) fun Ac=>obind (d_spec_l14Line fu Ag Ac) fun Af=>obind (scat Ab Af) fun Ad=>obind (scat Ad ((⟨#[10]⟩:ByteArray))) fun Ae=>k1 Ae (w64 (Aa + 1)) else some (Ab)
def d_spec_PlanText_L1 (fu:Nat)  (x1:Plan):Nat → ByteArray → Int → Option (ByteArray)
  | 0=>fun _ _=>none
  | n + 1=>d_spec_PlanText_L1_B fu x1 (d_spec_PlanText_L1 fu x1 n)

def d_spec_PlanText (fu:Nat) (x1:Plan):Option (ByteArray) :=
  obind (d_spec_PlanOk fu x1) fun Aa=>bif (!Aa) then some ((⟨#[]⟩:ByteArray)) else d_spec_PlanText_L1 fu x1 fu ((⟨#[]⟩:ByteArray)) 0

def d_spec_Pack (fu:Nat) (Aa:ByteArray):Option (ByteArray × Int) :=
  obind (d_spec_ClassOf fu Aa) fun x2=>bif (x2 != 0) then some ((⟨#[]⟩:ByteArray),x2) else obind (d_spec_ReadOrder fu Aa) fun x7=>obind (d_spec_PlanOf fu x7.1) fun Ab=>obind (d_spec_PlanText fu Ab.1) fun Ac=>some (Ac,0)

def d_spec_ClassText (fu:Nat) (Aa:Int):Option (ByteArray) :=
  obind (d_spec_l1In fu Aa 0 (w64 ((((([(⟨#[111,107]⟩:ByteArray),(⟨#[116,101,120,116]⟩:ByteArray),(⟨#[98,111,117,110,100,115]⟩:ByteArray),(⟨#[110,97,109,101,115]⟩:ByteArray),(⟨#[116,97,98,108,101]⟩:ByteArray),(⟨#[117,110,105,116]⟩:ByteArray),(⟨#[112,97,108,108,101,116]⟩:ByteArray)]:List ByteArray)).length:Int)) - 1))) fun x7=>bif (!x7) then some ((⟨#[]⟩:ByteArray)) else obind (ix (([(⟨#[111,107]⟩:ByteArray),(⟨#[116,101,120,116]⟩:ByteArray),(⟨#[98,111,117,110,100,115]⟩:ByteArray),(⟨#[110,97,109,101,115]⟩:ByteArray),(⟨#[116,97,98,108,101]⟩:ByteArray),(⟨#[117,110,105,116]⟩:ByteArray),(⟨#[112,97,108,108,101,116]⟩:ByteArray)]:List ByteArray)) Aa) fun Ab=>some (Ab)

def d_spec_PackText (fu:Nat) (Aa:ByteArray):Option (ByteArray) :=
  obind (d_spec_Pack fu Aa) fun x2=>bif (x2.2 != 0) then obind (d_spec_ClassText fu x2.2) fun x7=>obind (scat ((⟨#[33,32]⟩:ByteArray)) x7) fun Ac=>obind (scat Ac ((⟨#[10]⟩:ByteArray))) fun Ab=>some (Ab) else some (x2.1)

def d_impl_Parts_J1 (fu:Nat) (k3:List ByteArray → Int → Int → Option ((List ByteArray))) (Aa:Int) (Ac:List ByteArray) (Ab:Int):Option ((List ByteArray)) :=
  k3 Ac Ab (w64 (Aa + 1))

def d_impl_Parts_L1_B (fu:Nat)  (Ab:ByteArray) (Aj:Int) (k3:List ByteArray → Int → Int → Option ((List ByteArray))) (Ac:List ByteArray) (Ad:Int) (Aa:Int):Option ((List ByteArray)) :=
  bif (decide (Aa < ((Ab.size:Int)))) then obind (sx Ab Aa) fun Ai=>bif (Ai == Aj) then obind (ssl Ab Ad Aa) fun Ae=>obind (apnd 16 Ac (([Ae]:List ByteArray))) fun Ah=>d_impl_Parts_J1 fu k3 Aa Ah (w64 (Aa + 1)) else d_impl_Parts_J1 fu k3 Aa Ac Ad else obind (ssl Ab Ad (Ab.size:Int)) fun Ag=>obind (apnd 16 Ac (([Ag]:List ByteArray))) fun Af=>some (Af)
def d_impl_Parts_L1 (fu:Nat)  (Ab:ByteArray) (Aa:Int):Nat → List ByteArray → Int → Int → Option ((List ByteArray))
  | 0=>fun _ _ _=>none
  | n + 1=>d_impl_Parts_L1_B fu Ab Aa (d_impl_Parts_L1 fu Ab Aa n)

def d_impl_Parts (fu:Nat) (Ab:ByteArray) (Aa:Int):Option ((List ByteArray)) :=
  d_impl_Parts_L1 fu Ab Aa fu (([]:List ByteArray)) 0 0

def d_strconv_Atoi (fu:Nat) (x1:ByteArray):Option (Int × Bool):=atoiO x1

def d_impl_in (fu:Nat) (n1:Int) (Aa:Int) (Ab:Int):Option (Bool) :=
  bif (decide (n1 ≥ Aa)) then some (decide (n1 ≤ Ab)) else some (false)

def d_strconv_Itoa (fu:Nat) (x1:Int):Option ByteArray:=itoaO x1

def d_impl_Digits (fu:Nat) (n1:Int):Option (ByteArray) :=
  obind (d_strconv_Itoa fu n1) fun x2=>some (x2)

def d_impl_Number_J1 (fu:Nat) (x2:Int × Bool)  : Option (Int × Bool) :=
  some (x2.1,true)

def d_impl_Number (fu:Nat) (Aa:ByteArray):Option (Int × Bool) :=
  obind (d_strconv_Atoi fu Aa) fun x2=>bif x2.2 then some (0,false) else obind (d_impl_in fu x2.1 0 999999) fun Ab=>bif (!Ab) then some (0,false) else obind (d_impl_Digits fu x2.1) fun Ac=>bif (!(Ac.toList == Aa.toList)) then some (0,false) else d_impl_Number_J1 fu x2

def d_impl_wordsOf_L1_B (fu:Nat)  (Ad:List ByteArray) (k2:List Int → Int → Option ((List Int) × Bool)) (Ab:List Int) (Aa:Int):Option ((List Int) × Bool) :=
  bif (decide (Aa < ((Ad.length:Int)))) then obind (ix Ad Aa) fun Ae=>obind (d_impl_Number fu Ae) fun Ac=>bif (!Ac.2) then some (([]:List Int),false) else obind (apnd 8 Ab (([Ac.1]:List Int))) fun Af=>k2 Af (w64 (Aa + 1)) else some (Ab,true)
def d_impl_wordsOf_L1 (fu:Nat)  (Aa:List ByteArray):Nat → List Int → Int → Option ((List Int) × Bool)
  | 0=>fun _ _=>none
  | n + 1=>d_impl_wordsOf_L1_B fu Aa (d_impl_wordsOf_L1 fu Aa n)

def d_impl_wordsOf_J1 (fu:Nat) (x4:(List ByteArray))  : Option ((List Int) × Bool) :=
  obind (sls x4 1 (x4.length:Int)) fun Aa=>d_impl_wordsOf_L1 fu Aa fu (([]:List Int)) 0

def d_impl_wordsOf (fu:Nat) (Ad:ByteArray) (Ab:ByteArray) (Aa:Int):Option ((List Int) × Bool) :=
  obind (d_impl_Parts fu Ad 32) fun x4=>obind (ix x4 0) fun Ac=>bif (!(Ac.toList == Ab.toList)) then some (([]:List Int),false) else bif (((x4.length:Int)) != (w64 (Aa + 1))) then some (([]:List Int),false) else d_impl_wordsOf_J1 fu x4

def d_impl_putLine (fu:Nat) (r1:Request) (Ab:ByteArray):Option (Int × Request) :=
  bif (Ab.toList == ((⟨#[119,97,121,32,102,105,114,115,116]⟩:ByteArray)).toList) then some (0,(⟨0,r1.fPallet,r1.fClasses,r1.fPairs,r1.fTypes,r1.fMaster,r1.fItems⟩:Request)) else bif (Ab.toList == ((⟨#[119,97,121,32,110,101,120,116]⟩:ByteArray)).toList) then some (0,(⟨1,r1.fPallet,r1.fClasses,r1.fPairs,r1.fTypes,r1.fMaster,r1.fItems⟩:Request)) else obind (d_impl_wordsOf fu Ab ((⟨#[112,97,108,108,101,116]⟩:ByteArray)) 4) fun Ad=>bif Ad.2 then obind (ix Ad.1 0) fun Au=>obind (ix Ad.1 1) fun At=>obind (ix Ad.1 2) fun Aj=>obind (ix Ad.1 3) fun Ar=>some (1,(⟨r1.fWay,(⟨Au,At,Aj,Ar⟩:Pallet),r1.fClasses,r1.fPairs,r1.fTypes,r1.fMaster,r1.fItems⟩:Request)) else obind (d_impl_wordsOf fu Ab ((⟨#[99,108,97,115,115,101,115]⟩:ByteArray)) 1) fun Af=>bif Af.2 then obind (ix Af.1 0) fun As=>some (2,(⟨r1.fWay,r1.fPallet,As,r1.fPairs,r1.fTypes,r1.fMaster,r1.fItems⟩:Request)) else obind (d_impl_wordsOf fu Ab ((⟨#[119,105,116,104]⟩:ByteArray)) 2) fun Ae=>bif Ae.2 then obind (ix Ae.1 0) fun Ba=>obind (ix Ae.1 1) fun Ap=>obind (apnd 16 r1.fPairs (([(⟨Ba,Ap⟩:Pair)]:List Pair))) fun Am=>some (3,(⟨r1.fWay,r1.fPallet,r1.fClasses,Am,r1.fTypes,r1.fMaster,r1.fItems⟩:Request)) else obind (d_impl_wordsOf fu Ab ((⟨#[116,121,112,101]⟩:ByteArray)) 7) fun Ac=>bif Ac.2 then obind (ix Ac.1 0) fun Bb=>obind (ix Ac.1 1) fun Ax=>obind (ix Ac.1 2) fun Ak=>obind (ix Ac.1 3) fun Bc=>obind (ix Ac.1 4) fun Ah=>obind (ix Ac.1 5) fun Bf=>obind (ix Ac.1 6) fun Aq=>obind (apnd 56 r1.fTypes (([(⟨Bb,Ax,Ak,Bc,Ah,Bf,Aq⟩:Typ)]:List Typ))) fun Ay=>some (4,(⟨r1.fWay,r1.fPallet,r1.fClasses,r1.fPairs,Ay,r1.fMaster,r1.fItems⟩:Request)) else obind (d_impl_wordsOf fu Ab ((⟨#[109,97,115,116,101,114]⟩:ByteArray)) 1) fun Ag=>bif Ag.2 then obind (ix Ag.1 0) fun Ao=>some (5,(⟨r1.fWay,r1.fPallet,r1.fClasses,r1.fPairs,r1.fTypes,Ao,r1.fItems⟩:Request)) else obind (d_impl_wordsOf fu Ab ((⟨#[105,116,101,109]⟩:ByteArray)) 7) fun Aa=>bif Aa.2 then obind (ix Aa.1 0) fun Aw=>obind (ix Aa.1 1) fun Bd=>obind (ix Aa.1 2) fun Bg=>obind (ix Aa.1 3) fun Av=>obind (ix Aa.1 4) fun Ai=>obind (ix Aa.1 5) fun Az=>obind (ix Aa.1 6) fun Al=>obind (apnd 56 r1.fItems (([(⟨Aw,Bd,Bg,Av,Ai,Az,Al⟩:Item)]:List Item))) fun Be=>some (6,(⟨r1.fWay,r1.fPallet,r1.fClasses,r1.fPairs,r1.fTypes,r1.fMaster,Be⟩:Request)) else some ((-1),r1)

def d_impl_mayFollow_J1 (fu:Nat)   : Option (Bool) :=
  some (false)

def d_impl_mayFollow (fu:Nat) (Aa:Int) (Ab:Int):Option (Bool) :=
  bif (Ab == 0) then bif (Ab == 0) then some (Aa == (w64 (Ab - 1))) else bif (Ab == 3) then bif (Aa == 2) then some (true) else some (Aa == 3) else bif (Ab == 4) then obind (d_impl_in fu Aa 2 4) fun Ad=>some (Ad) else bif (Ab == 5) then obind (d_impl_in fu Aa 2 4) fun Ac=>some (Ac) else bif (Ab == 6) then bif (Aa == 5) then some (true) else some (Aa == 6) else d_impl_mayFollow_J1 fu else bif (Ab == 1) then bif (Ab == 1) then some (Aa == (w64 (Ab - 1))) else bif (Ab == 3) then bif (Aa == 2) then some (true) else some (Aa == 3) else bif (Ab == 4) then obind (d_impl_in fu Aa 2 4) fun Ah=>some (Ah) else bif (Ab == 5) then obind (d_impl_in fu Aa 2 4) fun Af=>some (Af) else bif (Ab == 6) then bif (Aa == 5) then some (true) else some (Aa == 6) else d_impl_mayFollow_J1 fu else bif (Ab == 2) then some (Aa == (w64 (Ab - 1))) else bif (Ab == 3) then bif (Aa == 2) then some (true) else some (Aa == 3) else bif (Ab == 4) then obind (d_impl_in fu Aa 2 4) fun Ag=>some (Ag) else bif (Ab == 5) then obind (d_impl_in fu Aa 2 4) fun Ae=>some (Ae) else bif (Ab == 6) then bif (Aa == 5) then some (true) else some (Aa == 6) else d_impl_mayFollow_J1 fu

def d_impl_ReadOrder_L1_B (fu:Nat)  (x5:(List ByteArray)) (Am:List ByteArray) (k1:Int → Int → Int → Int → Int → Int → List Pair → List Typ → Int → List Item → Int → Int → Option (Request × Int)) (Af:Int) (Aj:Int) (Ac:Int) (Ao:Int) (Ag:Int) (Ak:Int) (Al:List Pair) (Ad:List Typ) (Ah:Int) (Ae:List Item) (Ai:Int) (Ab:Int):Option (Request × Int) :=
  bif (decide (Ab < ((Am.length:Int)))) then obind (ix Am Ab) fun Ap=>obind (d_impl_putLine fu ((⟨Af,(⟨Aj,Ac,Ao,Ag⟩:Pallet),Ak,Al,Ad,Ah,Ae⟩:Request)) Ap) fun Aa=>obind (d_impl_mayFollow fu Ai Aa.1) fun Aq=>bif (!Aq) then some ((⟨0,(⟨0,0,0,0⟩:Pallet),0,[],[],0,[]⟩:Request),Ab) else k1 Aa.2.fWay Aa.2.fPallet.fW Aa.2.fPallet.fD Aa.2.fPallet.fH Aa.2.fPallet.fGram Aa.2.fClasses Aa.2.fPairs Aa.2.fTypes Aa.2.fMaster Aa.2.fItems Aa.1 (w64 (Ab + 1)) else bif (decide (Ai < 5)) then some ((⟨0,(⟨0,0,0,0⟩:Pallet),0,[],[],0,[]⟩:Request),w64 (((x5.length:Int)) - 1)) else obind (ix x5 (w64 (((x5.length:Int)) - 1))) fun Ar=>bif (!(Ar.toList == ((⟨#[]⟩:ByteArray)).toList)) then some ((⟨0,(⟨0,0,0,0⟩:Pallet),0,[],[],0,[]⟩:Request),w64 (((x5.length:Int)) - 1)) else some ((⟨Af,(⟨Aj,Ac,Ao,Ag⟩:Pallet),Ak,Al,Ad,Ah,Ae⟩:Request),(-1))
def d_impl_ReadOrder_L1 (fu:Nat)  (x5:(List ByteArray)) (Aa:List ByteArray):Nat → Int → Int → Int → Int → Int → Int → List Pair → List Typ → Int → List Item → Int → Int → Option (Request × Int)
  | 0=>fun _ _ _ _ _ _ _ _ _ _ _ _=>none
  | n + 1=>d_impl_ReadOrder_L1_B fu x5 Aa (d_impl_ReadOrder_L1 fu x5 Aa n)

def d_impl_ReadOrder (fu:Nat) (Aa:ByteArray):Option (Request × Int) :=
  obind (d_impl_Parts fu Aa 10) fun x5=>bif (decide ((w64 (((x5.length:Int)) - 1)) > 60)) then some ((⟨0,(⟨0,0,0,0⟩:Pallet),0,[],[],0,[]⟩:Request),60) else obind (sls x5 0 (w64 (((x5.length:Int)) - 1))) fun Ab=>d_impl_ReadOrder_L1 fu x5 Ab fu 0 0 0 0 0 0 (([]:List Pair)) (([]:List Typ)) 0 (([]:List Item)) ((-1)) 0

def d_impl_TypeById_1 (fu:Nat) (t1:Typ) (x2:Int):Option (Bool) :=
  some (t1.fId == x2)

def d_slices_IndexFunc_impl_Type_impl_Type_L1_B (fu:Nat)  (Ab:List Typ) (f5:Typ → Option Bool) (k1:Int → Option (Int)) (Aa:Int):Option (Int) :=
  bif (decide (Aa < ((Ab.length:Int)))) then obind (ix Ab Aa) fun Ac=>obind (f5 Ac) fun Ad=>bif Ad then some (Aa) else k1 (w64 (Aa + 1)) else some ((-1))
def d_slices_IndexFunc_impl_Type_impl_Type_L1 (fu:Nat)  (Aa:List Typ) (f5:Typ → Option Bool):Nat → Int → Option (Int)
  | 0=>fun _=>none
  | n + 1=>d_slices_IndexFunc_impl_Type_impl_Type_L1_B fu Aa f5 (d_slices_IndexFunc_impl_Type_impl_Type_L1 fu Aa f5 n)

def d_slices_IndexFunc_impl_Type_impl_Type (fu:Nat) (Aa:List Typ) (f5:Typ → Option Bool):Option (Int) :=
  d_slices_IndexFunc_impl_Type_impl_Type_L1 fu Aa f5 fu 0

def d_impl_TypeById (fu:Nat) (r1:Request) (Ab:Int):Option (Typ × Bool) :=
  obind (d_slices_IndexFunc_impl_Type_impl_Type fu r1.fTypes (fun Ac=>d_impl_TypeById_1 fu Ac Ab)) fun Aa=>bif (decide (Aa < 0)) then some ((⟨0,0,0,0,0,0,0⟩:Typ),false) else obind (ix r1.fTypes Aa) fun Ad=>some (Ad,true)

def d_impl_MasterOf (fu:Nat) (r1:Request):Option (Typ × Bool) :=
  obind (d_impl_TypeById fu r1 r1.fMaster) fun Aa=>some (Aa.1,Aa.2)

def d_impl_isSide (fu:Nat) (n1:Int):Option (Bool) :=
  obind (d_impl_in fu n1 1 2000) fun x2=>some (x2)

def d_impl_PalletOk (fu:Nat) (x1:Pallet):Option (Bool) :=
  obind (d_impl_isSide fu x1.fW) fun x5=>bif x5 then obind (d_impl_isSide fu x1.fD) fun Ac=>bif Ac then obind (d_impl_isSide fu x1.fH) fun Ab=>bif Ab then obind (d_impl_in fu x1.fGram 1 100000) fun Aa=>some (Aa) else some (false) else some (false) else some (false)

def d_slices_IndexFunc_impl_Pair_impl_Pair_L1_B (fu:Nat)  (Ab:List Pair) (f5:Pair → Option Bool) (k1:Int → Option (Int)) (Aa:Int):Option (Int) :=
  bif (decide (Aa < ((Ab.length:Int)))) then obind (ix Ab Aa) fun Ac=>obind (f5 Ac) fun Ad=>bif Ad then some (Aa) else k1 (w64 (Aa + 1)) else some ((-1))
def d_slices_IndexFunc_impl_Pair_impl_Pair_L1 (fu:Nat)  (Aa:List Pair) (f5:Pair → Option Bool):Nat → Int → Option (Int)
  | 0=>fun _=>none
  | n + 1=>d_slices_IndexFunc_impl_Pair_impl_Pair_L1_B fu Aa f5 (d_slices_IndexFunc_impl_Pair_impl_Pair_L1 fu Aa f5 n)

def d_slices_IndexFunc_impl_Pair_impl_Pair (fu:Nat) (Aa:List Pair) (f5:Pair → Option Bool):Option (Int) :=
  d_slices_IndexFunc_impl_Pair_impl_Pair_L1 fu Aa f5 fu 0

def d_slices_ContainsFunc_impl_Pair_impl_Pair (fu:Nat) (Aa:List Pair) (f5:Pair → Option Bool):Option (Bool) :=
  obind (d_slices_IndexFunc_impl_Pair_impl_Pair fu Aa f5) fun Ab=>some (decide (Ab ≥ 0))

def d_impl_BoundsOk_1 (fu:Nat) (p1:Pair):Option (Bool) :=
  obind (d_impl_in fu p1.fA 0 3) fun x5=>bif (!x5) then some (true) else obind (d_impl_in fu p1.fB 0 3) fun Aa=>some (!Aa)

def d_slices_ContainsFunc_impl_Type_impl_Type (fu:Nat) (Aa:List Typ) (f5:Typ → Option Bool):Option (Bool) :=
  obind (d_slices_IndexFunc_impl_Type_impl_Type fu Aa f5) fun Ab=>some (decide (Ab ≥ 0))

def d_impl_TypeOk (fu:Nat) (x1:Typ):Option (Bool) :=
  obind (d_impl_in fu x1.fId 0 999) fun x5=>bif x5 then obind (d_impl_isSide fu x1.fW) fun Af=>bif Af then obind (d_impl_isSide fu x1.fH) fun Ac=>bif Ac then obind (d_impl_isSide fu x1.fD) fun Ae=>bif Ae then obind (d_impl_in fu x1.fTare 0 100000) fun Ab=>bif Ab then obind (d_impl_in fu x1.fGram 1 100000) fun Aa=>bif Aa then obind (d_impl_in fu x1.fCost 0 100000) fun Ad=>some (Ad) else some (false) else some (false) else some (false) else some (false) else some (false) else some (false)

def d_impl_BoundsOk_2 (fu:Nat) (t1:Typ):Option (Bool) :=
  obind (d_impl_TypeOk fu t1) fun x5=>some (!x5)

def d_impl_ItemOk (fu:Nat) (x1:Item):Option (Bool) :=
  obind (d_impl_in fu x1.fId 0 999) fun x5=>bif x5 then obind (d_impl_isSide fu x1.fW) fun Af=>bif Af then obind (d_impl_isSide fu x1.fH) fun Ac=>bif Ac then obind (d_impl_isSide fu x1.fD) fun Ae=>bif Ae then obind (d_impl_in fu x1.fGram 1 100000) fun Ab=>bif Ab then obind (d_impl_in fu x1.fClass 0 3) fun Aa=>bif Aa then obind (d_impl_in fu x1.fCount 1 6) fun Ad=>some (Ad) else some (false) else some (false) else some (false) else some (false) else some (false) else some (false)

def d_impl_BoundsOk_L1_B (fu:Nat)  (r1:Request) (k3:Int → Int → Option (Bool)) (Ab:Int) (Aa:Int):Option (Bool) :=
  bif (decide (Aa < ((r1.fItems.length:Int)))) then obind (ix r1.fItems Aa) fun Ac=>obind (d_impl_ItemOk fu Ac) fun Ad=>bif (!Ad) then some (false) else k3 (w64 (Ab + Ac.fCount)) (w64 (Aa + 1)) else some (decide (Ab ≤ 12))
def d_impl_BoundsOk_L1 (fu:Nat)  (r1:Request):Nat → Int → Int → Option (Bool)
  | 0=>fun _ _=>none
  | n + 1=>d_impl_BoundsOk_L1_B fu r1 (d_impl_BoundsOk_L1 fu r1 n)

def d_impl_BoundsOk_J1 (fu:Nat) (r1:Request)  : Option (Bool) :=
  d_impl_BoundsOk_L1 fu r1 fu 0 0

def d_impl_BoundsOk_J2 (fu:Nat) (r1:Request)  : Option (Bool) :=
  obind (d_slices_ContainsFunc_impl_Pair_impl_Pair fu r1.fPairs (fun Ac=>d_impl_BoundsOk_1 fu Ac)) fun Ad=>bif Ad then some (false) else obind (d_impl_in fu ((r1.fTypes.length:Int)) 1 5) fun Ae=>bif (!Ae) then some (false) else obind (d_slices_ContainsFunc_impl_Type_impl_Type fu r1.fTypes (fun Aa=>d_impl_BoundsOk_2 fu Aa)) fun Af=>bif Af then some (false) else obind (d_impl_in fu r1.fMaster 0 999) fun Ab=>bif (!Ab) then some (false) else bif (decide (((r1.fItems.length:Int)) > 8)) then some (false) else d_impl_BoundsOk_J1 fu r1

def d_impl_BoundsOk (fu:Nat) (r1:Request):Option (Bool) :=
  obind (d_impl_in fu r1.fWay 0 1) fun Aa=>bif (!Aa) then some (false) else obind (d_impl_PalletOk fu r1.fPallet) fun Ab=>bif (!Ab) then some (false) else obind (d_impl_in fu r1.fClasses 1 4) fun Ac=>bif (!Ac) then some (false) else bif (decide (((r1.fPairs.length:Int)) > 16)) then some (false) else d_impl_BoundsOk_J2 fu r1

def d_impl_namesOk_1 (fu:Nat) (q1:Typ) (x2:Typ):Option (Bool) :=
  some (q1.fId == x2.fId)

def d_impl_namesOk_2 (fu:Nat) (q1:Item) (x2:Item):Option (Bool) :=
  some (q1.fId == x2.fId)

def d_slices_IndexFunc_impl_Item_impl_Item_L1_B (fu:Nat)  (Ab:List Item) (f5:Item → Option Bool) (k1:Int → Option (Int)) (Aa:Int):Option (Int) :=
  bif (decide (Aa < ((Ab.length:Int)))) then obind (ix Ab Aa) fun Ac=>obind (f5 Ac) fun Ad=>bif Ad then some (Aa) else k1 (w64 (Aa + 1)) else some ((-1))
def d_slices_IndexFunc_impl_Item_impl_Item_L1 (fu:Nat)  (Aa:List Item) (f5:Item → Option Bool):Nat → Int → Option (Int)
  | 0=>fun _=>none
  | n + 1=>d_slices_IndexFunc_impl_Item_impl_Item_L1_B fu Aa f5 (d_slices_IndexFunc_impl_Item_impl_Item_L1 fu Aa f5 n)

def d_slices_IndexFunc_impl_Item_impl_Item (fu:Nat) (Aa:List Item) (f5:Item → Option Bool):Option (Int) :=
  d_slices_IndexFunc_impl_Item_impl_Item_L1 fu Aa f5 fu 0

def d_slices_ContainsFunc_impl_Item_impl_Item (fu:Nat) (Aa:List Item) (f5:Item → Option Bool):Option (Bool) :=
  obind (d_slices_IndexFunc_impl_Item_impl_Item fu Aa f5) fun Ab=>some (decide (Ab ≥ 0))

def d_impl_namesOk_3 (fu:Nat) (p1:Pair) (x2:Request):Option (Bool) :=
  bif (decide (p1.fA ≥ x2.fClasses)) then some (true) else some (decide (p1.fB ≥ x2.fClasses))

def d_impl_namesOk_J1 (fu:Nat) (k4:Int → Option (Bool)) (Aa:Int)  : Option (Bool) :=
  k4 (w64 (Aa + 1))

def d_impl_namesOk_L1_B (fu:Nat)  (r1:Request) (k4:Int → Option (Bool)) (Aa:Int):Option (Bool) :=
  bif (decide (Aa < ((r1.fItems.length:Int)))) then obind (ix r1.fItems Aa) fun Ab=>bif (decide (Ab.fClass ≥ r1.fClasses)) then some (false) else obind (sls r1.fItems 0 Aa) fun Ae=>obind (d_slices_ContainsFunc_impl_Item_impl_Item fu Ae (fun Ac=>d_impl_namesOk_2 fu Ac Ab)) fun Ah=>bif Ah then some (false) else d_impl_namesOk_J1 fu k4 Aa else obind (d_impl_MasterOf fu r1) fun Ag=>bif Ag.2 then obind (d_slices_ContainsFunc_impl_Pair_impl_Pair fu r1.fPairs (fun Af=>d_impl_namesOk_3 fu Af r1)) fun Ad=>some (!Ad) else some (false)
def d_impl_namesOk_L1 (fu:Nat)  (r1:Request):Nat → Int → Option (Bool)
  | 0=>fun _=>none
  | n + 1=>d_impl_namesOk_L1_B fu r1 (d_impl_namesOk_L1 fu r1 n)

def d_impl_namesOk_L2_B (fu:Nat)  (r1:Request) (k1:Int → Option (Bool)) (Aa:Int):Option (Bool) :=
  bif (decide (Aa < ((r1.fTypes.length:Int)))) then obind (ix r1.fTypes Aa) fun Ab=>obind (sls r1.fTypes 0 Aa) fun Ae=>obind (d_slices_ContainsFunc_impl_Type_impl_Type fu Ae (fun Ac=>d_impl_namesOk_1 fu Ac Ab)) fun Ad=>bif Ad then some (false) else k1 (w64 (Aa + 1)) else d_impl_namesOk_L1 fu r1 fu 0
def d_impl_namesOk_L2 (fu:Nat)  (r1:Request):Nat → Int → Option (Bool)
  | 0=>fun _=>none
  | n + 1=>d_impl_namesOk_L2_B fu r1 (d_impl_namesOk_L2 fu r1 n)

def d_impl_namesOk (fu:Nat) (r1:Request):Option (Bool) :=
  d_impl_namesOk_L2 fu r1 fu 0

def d_slices_Index_impl_Pair_impl_Pair_L1_B (fu:Nat)  (Ab:List Pair) (v5:Pair) (k1:Int → Option (Int)) (Aa:Int):Option (Int) :=
  bif (decide (Aa < ((Ab.length:Int)))) then obind (ix Ab Aa) fun Ac=>bif (decide (v5 = Ac)) then some (Aa) else k1 (w64 (Aa + 1)) else some ((-1))
def d_slices_Index_impl_Pair_impl_Pair_L1 (fu:Nat)  (Aa:List Pair) (v5:Pair):Nat → Int → Option (Int)
  | 0=>fun _=>none
  | n + 1=>d_slices_Index_impl_Pair_impl_Pair_L1_B fu Aa v5 (d_slices_Index_impl_Pair_impl_Pair_L1 fu Aa v5 n)

def d_slices_Index_impl_Pair_impl_Pair (fu:Nat) (Aa:List Pair) (v5:Pair):Option (Int) :=
  d_slices_Index_impl_Pair_impl_Pair_L1 fu Aa v5 fu 0

def d_slices_Contains_impl_Pair_impl_Pair (fu:Nat) (Aa:List Pair) (v5:Pair):Option (Bool) :=
  obind (d_slices_Index_impl_Pair_impl_Pair fu Aa v5) fun Ab=>some (decide (Ab ≥ 0))

def d_impl_Beside (fu:Nat) (Aa:List Pair) (a5:Int) (b6:Int):Option (Bool) :=
  obind (d_slices_Contains_impl_Pair_impl_Pair fu Aa ((⟨a5,b6⟩:Pair))) fun x7=>some (x7)

def d_impl_TableOk_L1_B (fu:Nat) (k3:Int → Option (Bool)) (Ac:List Pair) (Ad:Int) (Ab:Int) (k4:Int → Option (Bool)) (Aa:Int):Option (Bool) :=
  bif (decide (Aa < Ad)) then obind (d_impl_Beside fu Ac Ab Aa) fun Ae=>obind (d_impl_Beside fu Ac Aa Ab) fun Af=>bif (!(Ae == Af)) then some (false) else k4 (w64 (Aa + 1)) else k3 (w64 (Ab + 1))
def d_impl_TableOk_L1 (fu:Nat) (k3:Int → Option (Bool)) (Ac:List Pair) (Ab:Int) (Aa:Int):Nat → Int → Option (Bool)
  | 0=>fun _=>none
  | n + 1=>d_impl_TableOk_L1_B fu k3 Ac Ab Aa (d_impl_TableOk_L1 fu k3 Ac Ab Aa n)

def d_impl_TableOk_L2_B (fu:Nat)  (Ac:List Pair) (Ab:Int) (k3:Int → Option (Bool)) (Aa:Int):Option (Bool) :=
  bif (decide (Aa < Ab)) then obind (d_impl_Beside fu Ac Aa Aa) fun Ad=>bif (!Ad) then some (false) else d_impl_TableOk_L1 fu k3 Ac Ab Aa fu 0 else some (true)
def d_impl_TableOk_L2 (fu:Nat)  (Ab:List Pair) (Aa:Int):Nat → Int → Option (Bool)
  | 0=>fun _=>none
  | n + 1=>d_impl_TableOk_L2_B fu Ab Aa (d_impl_TableOk_L2 fu Ab Aa n)

def d_impl_TableOk (fu:Nat) (Ab:List Pair) (Aa:Int):Option (Bool) :=
  obind (d_impl_in fu Aa 1 4) fun x6=>bif (!x6) then some (false) else d_impl_TableOk_L2 fu Ab Aa fu 0

def d_slices_Sort_int_int (fu:Nat) (x1:List Int):Option (List Int):=sortI x1

def d_impl_Fits_J1 (fu:Nat) (x1:Item) (t2:Typ) (Ag:List Int) (Ah:List Int):Option (Bool) :=
  obind (d_slices_Sort_int_int fu Ag) fun Aa=>obind (d_slices_Sort_int_int fu Ah) fun Ab=>obind (ix Aa 0) fun Ac=>obind (ix Ab 0) fun Ai=>bif (decide (Ac ≤ Ai)) then obind (ix Aa 1) fun Ad=>obind (ix Ab 1) fun Aj=>bif (decide (Ad ≤ Aj)) then obind (ix Aa 2) fun Af=>obind (ix Ab 2) fun Ae=>bif (decide (Af ≤ Ae)) then some (decide (x1.fGram ≤ t2.fGram)) else some (false) else some (false) else some (false)

def d_impl_Fits (fu:Nat) (x1:Item) (t2:Typ):Option (Bool) :=
  d_impl_Fits_J1 fu x1 t2 (([x1.fW,x1.fH,x1.fD]:List Int)) (([t2.fW,t2.fH,t2.fD]:List Int))

def d_impl_Class_1 (fu:Nat) (x1:Item) (x2:Typ):Option (Bool) :=
  obind (d_impl_Fits fu x1 x2) fun x8=>some (!x8)

def d_impl_Class_2 (fu:Nat) (t1:Typ) (x2:Pallet):Option (Bool) :=
  bif (decide (t1.fW > x2.fW)) then some (true) else bif (decide (t1.fD > x2.fD)) then some (true) else bif (decide (t1.fH > x2.fH)) then some (true) else some (decide ((w64 (t1.fTare + t1.fGram)) > x2.fGram))

def d_impl_Class (fu:Nat) (r1:Request):Option (Int) :=
  obind (d_impl_MasterOf fu r1) fun Ag=>obind (d_impl_BoundsOk fu r1) fun Aa=>bif (!Aa) then some (2) else obind (d_impl_namesOk fu r1) fun Ae=>bif (!Ae) then some (3) else obind (d_impl_TableOk fu r1.fPairs r1.fClasses) fun Ab=>bif (!Ab) then some (4) else obind (d_slices_ContainsFunc_impl_Item_impl_Item fu r1.fItems (fun Ah=>d_impl_Class_1 fu Ah Ag.1)) fun Af=>bif Af then some (5) else obind (d_slices_ContainsFunc_impl_Type_impl_Type fu r1.fTypes (fun Ac=>d_impl_Class_2 fu Ac r1.fPallet)) fun Ad=>bif Ad then some (6) else some (0)

def d_impl_ClassOf (fu:Nat) (Aa:ByteArray):Option (Int) :=
  obind (d_impl_ReadOrder fu Aa) fun x2=>bif (decide (x2.2 ≥ 0)) then some (1) else obind (d_impl_Class fu x2.1) fun Ab=>some (Ab)

def d_impl_sound (fu:Nat) (r1:Request):Option (Bool) :=
  obind (d_impl_Class fu r1) fun Aa=>some (Aa == 0)

def d_slices_Clone_int_int (fu:Nat) (Ab:List Int):Option ((List Int)) :=
  obind (apnd 8 (([]:List Int)) Ab) fun Aa=>some (Aa)

def d_slices_Compact_int_int (fu:Nat) (x1:List Int):Option (List Int):=cmpI x1

def d_impl_kinds (fu:Nat) (Ac:List Int):Option ((List Int)) :=
  obind (d_slices_Clone_int_int fu Ac) fun x5=>obind (d_slices_Sort_int_int fu x5) fun Aa=>obind (d_slices_Compact_int_int fu Aa) fun Ab=>some (Ab)

def d_impl_Present_L1_B (fu:Nat)  (r1:Request) (k1:List Int → Int → Option ((List Int))) (Ab:List Int) (Aa:Int):Option ((List Int)) :=
  bif (decide (Aa < ((r1.fItems.length:Int)))) then obind (ix r1.fItems Aa) fun Ac=>obind (apnd 8 Ab (([Ac.fClass]:List Int))) fun Ae=>k1 Ae (w64 (Aa + 1)) else obind (d_impl_kinds fu Ab) fun Ad=>some (Ad)
def d_impl_Present_L1 (fu:Nat)  (r1:Request):Nat → List Int → Int → Option ((List Int))
  | 0=>fun _ _=>none
  | n + 1=>d_impl_Present_L1_B fu r1 (d_impl_Present_L1 fu r1 n)

def d_impl_Present (fu:Nat) (r1:Request):Option ((List Int)) :=
  obind (d_impl_sound fu r1) fun Aa=>bif (!Aa) then some (([]:List Int)) else d_impl_Present_L1 fu r1 fu (([]:List Int)) 0

def d_impl_mutual (fu:Nat) (Aa:List Pair) (a5:Int) (b6:Int):Option (Bool) :=
  obind (d_impl_Beside fu Aa a5 b6) fun x7=>bif x7 then obind (d_impl_Beside fu Aa b6 a5) fun Ab=>some (Ab) else some (false)

def d_impl_Groups_1_1 (fu:Nat) (x1:Int) (x2:List Pair) (x8:Int):Option (Bool) :=
  obind (d_impl_mutual fu x2 x8 x1) fun Aa=>some (!Aa)

def d_slices_IndexFunc_int_int_L1_B (fu:Nat)  (Ab:List Int) (f5:Int → Option Bool) (k1:Int → Option (Int)) (Aa:Int):Option (Int) :=
  bif (decide (Aa < ((Ab.length:Int)))) then obind (ix Ab Aa) fun Ac=>obind (f5 Ac) fun Ad=>bif Ad then some (Aa) else k1 (w64 (Aa + 1)) else some ((-1))
def d_slices_IndexFunc_int_int_L1 (fu:Nat)  (Aa:List Int) (f5:Int → Option Bool):Nat → Int → Option (Int)
  | 0=>fun _=>none
  | n + 1=>d_slices_IndexFunc_int_int_L1_B fu Aa f5 (d_slices_IndexFunc_int_int_L1 fu Aa f5 n)

def d_slices_IndexFunc_int_int (fu:Nat) (Aa:List Int) (f5:Int → Option Bool):Option (Int) :=
  d_slices_IndexFunc_int_int_L1 fu Aa f5 fu 0

def d_slices_ContainsFunc_int_int (fu:Nat) (Aa:List Int) (f5:Int → Option Bool):Option (Bool) :=
  obind (d_slices_IndexFunc_int_int fu Aa f5) fun Ab=>some (decide (Ab ≥ 0))

def d_impl_Groups_1 (fu:Nat) (l1:List Int) (x5:List Pair) (Ac:Int):Option (Bool) :=
  obind (d_slices_ContainsFunc_int_int fu l1 (fun Ab=>d_impl_Groups_1_1 fu Ab x5 Ac)) fun Aa=>some (!Aa)

def d_slices_IndexFunc_ints_int_L1_B (fu:Nat)  (Ab:List (List Int)) (f5:(List Int) → Option Bool) (k1:Int → Option (Int)) (Aa:Int):Option (Int) :=
  bif (decide (Aa < ((Ab.length:Int)))) then obind (ix Ab Aa) fun Ad=>obind (f5 Ad) fun Ac=>bif Ac then some (Aa) else k1 (w64 (Aa + 1)) else some ((-1))
def d_slices_IndexFunc_ints_int_L1 (fu:Nat)  (Aa:List (List Int)) (f5:(List Int) → Option Bool):Nat → Int → Option (Int)
  | 0=>fun _=>none
  | n + 1=>d_slices_IndexFunc_ints_int_L1_B fu Aa f5 (d_slices_IndexFunc_ints_int_L1 fu Aa f5 n)

def d_slices_IndexFunc_ints_int (fu:Nat) (Aa:List (List Int)) (f5:(List Int) → Option Bool):Option (Int) :=
  d_slices_IndexFunc_ints_int_L1 fu Aa f5 fu 0

def d_impl_Groups_J1 (fu:Nat) (k3:List (List Int) → Int → Option ((List (List Int)))) (Aa:Int) (Ab:List (List Int)):Option ((List (List Int))) :=
  k3 Ab (w64 (Aa + 1))

def d_impl_Groups_L1_B (fu:Nat)  (Ak:List Pair) (Ae:(List Int)) (k3:List (List Int) → Int → Option ((List (List Int)))) (Aa:List (List Int)) (Ab:Int):Option ((List (List Int))) :=
  bif (decide (Ab < ((Ae.length:Int)))) then obind (ix Ae Ab) fun Ad=>obind (d_impl_in fu Ad 0 3) fun Aj=>bif (!Aj) then d_impl_Groups_J1 fu k3 Ab Aa else obind (d_slices_IndexFunc_ints_int fu Aa (fun Ai=>d_impl_Groups_1 fu Ai Ak Ad)) fun Ac=>bif (decide (Ac < 0)) then obind (apnd 24 Aa [([Ad]:List Int)]) fun Af=>d_impl_Groups_J1 fu k3 Ab Af else obind (ix Aa Ac) fun Ah=>obind (apnd 8 Ah (([Ad]:List Int))) fun Ag=>obind (ix Aa Ac) fun Al=>d_impl_Groups_J1 fu k3 Ab (setx Aa Ac Ag) else some (Aa)
def d_impl_Groups_L1 (fu:Nat)  (Ab:List Pair) (Aa:(List Int)):Nat → List (List Int) → Int → Option ((List (List Int)))
  | 0=>fun _ _=>none
  | n + 1=>d_impl_Groups_L1_B fu Ab Aa (d_impl_Groups_L1 fu Ab Aa n)

def d_impl_Groups (fu:Nat) (Ac:List Pair) (Ab:List Int):Option ((List (List Int))) :=
  obind (d_impl_kinds fu Ab) fun Aa=>d_impl_Groups_L1 fu Ac Aa fu (([]:List (List Int))) 0

def d_impl_GroupsOf (fu:Nat) (r1:Request):Option ((List (List Int))) :=
  obind (d_impl_sound fu r1) fun Aa=>bif (!Aa) then some (([]:List (List Int))) else obind (d_impl_Present fu r1) fun Ac=>obind (d_impl_Groups fu r1.fPairs Ac) fun Ab=>some (Ab)

def d_bits_Mul64 (fu:Nat) (x1:Int) (y2:Int):Option (Int × Int) :=
  some (IntKind.wrap .u64 ((IntKind.wrap .u64 ((IntKind.wrap .u64 ((Int.fdiv x1 (2 ^ (min 32 (IntKind.bits .u64)))) * (Int.fdiv y2 (2 ^ (min 32 (IntKind.bits .u64)))))) + (Int.fdiv (IntKind.wrap .u64 ((IntKind.wrap .u64 ((Int.fdiv x1 (2 ^ (min 32 (IntKind.bits .u64)))) * (IntKind.wrap .u64 (((BitVec.ofInt (IntKind.bits .u64) y2 &&& BitVec.ofInt (IntKind.bits .u64) 4294967295).toNat:Nat):Int)))) + (Int.fdiv (IntKind.wrap .u64 ((IntKind.wrap .u64 (((BitVec.ofInt (IntKind.bits .u64) x1 &&& BitVec.ofInt (IntKind.bits .u64) 4294967295).toNat:Nat):Int)) * (IntKind.wrap .u64 (((BitVec.ofInt (IntKind.bits .u64) y2 &&& BitVec.ofInt (IntKind.bits .u64) 4294967295).toNat:Nat):Int)))) (2 ^ (min 32 (IntKind.bits .u64)))))) (2 ^ (min 32 (IntKind.bits .u64)))))) + (Int.fdiv (IntKind.wrap .u64 ((IntKind.wrap .u64 (((BitVec.ofInt (IntKind.bits .u64) (IntKind.wrap .u64 ((IntKind.wrap .u64 ((Int.fdiv x1 (2 ^ (min 32 (IntKind.bits .u64)))) * (IntKind.wrap .u64 (((BitVec.ofInt (IntKind.bits .u64) y2 &&& BitVec.ofInt (IntKind.bits .u64) 4294967295).toNat:Nat):Int)))) + (Int.fdiv (IntKind.wrap .u64 ((IntKind.wrap .u64 (((BitVec.ofInt (IntKind.bits .u64) x1 &&& BitVec.ofInt (IntKind.bits .u64) 4294967295).toNat:Nat):Int)) * (IntKind.wrap .u64 (((BitVec.ofInt (IntKind.bits .u64) y2 &&& BitVec.ofInt (IntKind.bits .u64) 4294967295).toNat:Nat):Int)))) (2 ^ (min 32 (IntKind.bits .u64)))))) &&& BitVec.ofInt (IntKind.bits .u64) 4294967295).toNat:Nat):Int)) + (IntKind.wrap .u64 ((IntKind.wrap .u64 (((BitVec.ofInt (IntKind.bits .u64) x1 &&& BitVec.ofInt (IntKind.bits .u64) 4294967295).toNat:Nat):Int)) * (Int.fdiv y2 (2 ^ (min 32 (IntKind.bits .u64)))))))) (2 ^ (min 32 (IntKind.bits .u64))))),IntKind.wrap .u64 (x1 * y2))

def d_bits_Mul (fu:Nat) (x1:Int) (y2:Int):Option (Int × Int) :=
  obind (d_bits_Mul64 fu x1 y2) fun x3=>some (x3.1,x3.2)

def d_slices_Repeat_int_int_L1_B (fu:Nat)   (k3:List Int → Int → Option ((List Int))) (Aa:List Int) (Ab:Int):Option ((List Int)) :=
  bif (decide (Ab < ((Aa.length:Int)))) then obind (sls Aa Ab (Aa.length:Int)) fun Ad=>obind (sls Aa 0 Ab) fun Ac=>k3 (cpd Aa Ab Ac) (w64 (Ab + (cpn Aa Ab Ac))) else some (Aa)
def d_slices_Repeat_int_int_L1 (fu:Nat)   : Nat → List Int → Int → Option ((List Int))
  | 0=>fun _ _=>none
  | n + 1=>d_slices_Repeat_int_int_L1_B fu  (d_slices_Repeat_int_int_L1 fu  n)

def d_slices_Repeat_int_int_J1 (fu:Nat) (x1:List Int) (x8:Int × Int)  : Option ((List Int)) :=
  obind (mk 8 (0:Int) (w64 x8.2)) fun Aa=>d_slices_Repeat_int_int_L1 fu fu (cpd Aa 0 x1) (cpn Aa 0 x1)

def d_slices_Repeat_int_int_J2 (fu:Nat) (x1:List Int) (Aa:Int)  : Option ((List Int)) :=
  obind (d_bits_Mul fu (IntKind.wrap .u64 ((x1.length:Int))) (IntKind.wrap .u64 Aa)) fun x8=>bif (decide (x8.1 > 0)) then none else bif (decide (x8.2 > 9223372036854775807)) then none else d_slices_Repeat_int_int_J1 fu x1 x8

def d_slices_Repeat_int_int (fu:Nat) (x1:List Int) (Aa:Int):Option ((List Int)) :=
  bif (decide (Aa < 0)) then none else d_slices_Repeat_int_int_J2 fu x1 Aa

def d_impl_Units_L1_B (fu:Nat)  (r1:Request) (k1:List Int → Int → Option ((List Int))) (Ab:List Int) (Aa:Int):Option ((List Int)) :=
  bif (decide (Aa < ((r1.fItems.length:Int)))) then obind (ix r1.fItems Aa) fun Ae=>obind (d_slices_Repeat_int_int fu (([Aa]:List Int)) Ae.fCount) fun Ac=>obind (apnd 8 Ab Ac) fun Ad=>k1 Ad (w64 (Aa + 1)) else some (Ab)
def d_impl_Units_L1 (fu:Nat)  (r1:Request):Nat → List Int → Int → Option ((List Int))
  | 0=>fun _ _=>none
  | n + 1=>d_impl_Units_L1_B fu r1 (d_impl_Units_L1 fu r1 n)

def d_impl_Units (fu:Nat) (r1:Request):Option ((List Int)) :=
  obind (d_impl_sound fu r1) fun Aa=>bif (!Aa) then some (([]:List Int)) else d_impl_Units_L1 fu r1 fu (([]:List Int)) 0

def d_slices_Index_int_int_L1_B (fu:Nat)  (Ab:List Int) (v5:Int) (k1:Int → Option (Int)) (Aa:Int):Option (Int) :=
  bif (decide (Aa < ((Ab.length:Int)))) then obind (ix Ab Aa) fun Ac=>bif (v5 == Ac) then some (Aa) else k1 (w64 (Aa + 1)) else some ((-1))
def d_slices_Index_int_int_L1 (fu:Nat)  (Aa:List Int) (v5:Int):Nat → Int → Option (Int)
  | 0=>fun _=>none
  | n + 1=>d_slices_Index_int_int_L1_B fu Aa v5 (d_slices_Index_int_int_L1 fu Aa v5 n)

def d_slices_Index_int_int (fu:Nat) (Aa:List Int) (v5:Int):Option (Int) :=
  d_slices_Index_int_int_L1 fu Aa v5 fu 0

def d_slices_Contains_int_int (fu:Nat) (Aa:List Int) (v5:Int):Option (Bool) :=
  obind (d_slices_Index_int_int fu Aa v5) fun x6=>some (decide (x6 ≥ 0))

def d_impl_UnitsOf_J1 (fu:Nat) (k3:List Int → Int → Option ((List Int))) (Ab:Int) (Aa:List Int):Option ((List Int)) :=
  k3 Aa (w64 (Ab + 1))

def d_impl_UnitsOf_L1_B (fu:Nat)  (r1:Request) (Ai:Int) (Ae:(List (List Int))) (Ac:(List Int)) (k3:List Int → Int → Option ((List Int))) (Ab:List Int) (Aa:Int):Option ((List Int)) :=
  bif (decide (Aa < ((Ac.length:Int)))) then obind (ix Ac Aa) fun Ag=>obind (ix Ae Ai) fun Af=>obind (ix r1.fItems Ag) fun Ah=>obind (d_slices_Contains_int_int fu Af Ah.fClass) fun Aj=>bif Aj then obind (apnd 8 Ab (([Aa]:List Int))) fun Ad=>d_impl_UnitsOf_J1 fu k3 Aa Ad else d_impl_UnitsOf_J1 fu k3 Aa Ab else some (Ab)
def d_impl_UnitsOf_L1 (fu:Nat)  (r1:Request) (Ab:Int) (Aa:(List (List Int))) (Ac:(List Int)):Nat → List Int → Int → Option ((List Int))
  | 0=>fun _ _=>none
  | n + 1=>d_impl_UnitsOf_L1_B fu r1 Ab Aa Ac (d_impl_UnitsOf_L1 fu r1 Ab Aa Ac n)

def d_impl_UnitsOf (fu:Nat) (r1:Request) (Ab:Int):Option ((List Int)) :=
  obind (d_impl_GroupsOf fu r1) fun Aa=>obind (d_impl_in fu Ab 0 (w64 (((Aa.length:Int)) - 1))) fun Ac=>bif (!Ac) then some (([]:List Int)) else obind (d_impl_Units fu r1) fun Ad=>d_impl_UnitsOf_L1 fu r1 Ab Aa Ad fu (([]:List Int)) 0

def d_impl_thereOf_1 (fu:Nat) (u1:Int) (x2:Int):Option (Bool) :=
  obind (d_impl_in fu u1 0 (w64 (x2 - 1))) fun x5=>some (!x5)

def d_slices_DeleteFunc_int_int_J1 (fu:Nat) (k3:List Int → Int → Int → Option ((List Int))) (Aa:Int) (Ab:List Int) (Ac:Int):Option ((List Int)) :=
  k3 Ab Ac (w64 (Aa + 1))

def d_slices_DeleteFunc_int_int_L1_B (fu:Nat)  (f5:Int → Option Bool) (k3:List Int → Int → Int → Option ((List Int))) (Aa:List Int) (Ab:Int) (Ac:Int):Option ((List Int)) :=
  bif (decide (Ac < ((Aa.length:Int)))) then obind (ix Aa Ac) fun Ad=>obind (f5 Ad) fun Af=>bif (!Af) then obind (ix Aa Ab) fun Ag=>d_slices_DeleteFunc_int_int_J1 fu k3 Ac (setx Aa Ab Ad) (w64 (Ab + 1)) else d_slices_DeleteFunc_int_int_J1 fu k3 Ac Aa Ab else obind (sls Aa Ab (Aa.length:Int)) fun Ah=>obind (sls (clrd Aa Ab) 0 Ab) fun Ae=>some (Ae)
def d_slices_DeleteFunc_int_int_L1 (fu:Nat)  (f5:Int → Option Bool):Nat → List Int → Int → Int → Option ((List Int))
  | 0=>fun _ _ _=>none
  | n + 1=>d_slices_DeleteFunc_int_int_L1_B fu f5 (d_slices_DeleteFunc_int_int_L1 fu f5 n)

def d_slices_DeleteFunc_int_int (fu:Nat) (Aa:List Int) (f5:Int → Option Bool):Option ((List Int)) :=
  obind (d_slices_IndexFunc_int_int fu Aa f5) fun Ab=>bif (Ab == ((-1))) then some (Aa) else d_slices_DeleteFunc_int_int_L1 fu f5 fu Aa Ab (w64 (Ab + 1))

def d_impl_thereOf (fu:Nat) (r1:Request) (Aa:List Int):Option ((List Int)) :=
  obind (d_impl_Units fu r1) fun Ad=>obind (d_slices_Clone_int_int fu Aa) fun Ab=>obind (d_slices_DeleteFunc_int_int fu Ab (fun Ac=>d_impl_thereOf_1 fu Ac ((Ad.length:Int)))) fun Ae=>some (Ae)

def d_impl_itemsOf_J1 (fu:Nat) (k3:List Item → Int → Option ((List Item))) (Aa:Int) (Ab:List Item):Option ((List Item)) :=
  k3 Ab (w64 (Aa + 1))

def d_impl_itemsOf_L1_B (fu:Nat)  (r1:Request) (Ac:List Int) (Ae:(List Int)) (k3:List Item → Int → Option ((List Item))) (Ab:List Item) (Aa:Int):Option ((List Item)) :=
  bif (decide (Aa < ((Ac.length:Int)))) then obind (ix Ac Aa) fun Ad=>obind (d_impl_in fu Ad 0 (w64 (((Ae.length:Int)) - 1))) fun Ai=>bif Ai then obind (ix Ae Ad) fun Ah=>obind (ix r1.fItems Ah) fun Af=>obind (apnd 56 Ab (([Af]:List Item))) fun Ag=>d_impl_itemsOf_J1 fu k3 Aa Ag else d_impl_itemsOf_J1 fu k3 Aa Ab else some (Ab)
def d_impl_itemsOf_L1 (fu:Nat)  (r1:Request) (Ab:List Int) (Aa:(List Int)):Nat → List Item → Int → Option ((List Item))
  | 0=>fun _ _=>none
  | n + 1=>d_impl_itemsOf_L1_B fu r1 Ab Aa (d_impl_itemsOf_L1 fu r1 Ab Aa n)

def d_impl_itemsOf (fu:Nat) (r1:Request) (Ab:List Int):Option ((List Item)) :=
  obind (d_impl_Units fu r1) fun Aa=>d_impl_itemsOf_L1 fu r1 Ab Aa fu (([]:List Item)) 0

def d_impl_Volume_J1 (fu:Nat) (Aa:Int) (h2:Int) (d3:Int)  : Option (Int) :=
  some (w64 ((w64 (Aa * h2)) * d3))

def d_impl_Volume (fu:Nat) (Aa:Int) (h2:Int) (d3:Int):Option (Int) :=
  obind (d_impl_in fu Aa 0 2000) fun Ac=>bif (!Ac) then some (0) else obind (d_impl_in fu h2 0 2000) fun Ad=>bif (!Ad) then some (0) else obind (d_impl_in fu d3 0 2000) fun Ab=>bif (!Ab) then some (0) else d_impl_Volume_J1 fu Aa h2 d3

def d_impl_VolumeOf_L1_B (fu:Nat)  (Ad:(List Item)) (k1:Int → Int → Option (Int)) (Ac:Int) (Ab:Int):Option (Int) :=
  bif (decide (Ab < ((Ad.length:Int)))) then obind (ix Ad Ab) fun Aa=>obind (d_impl_Volume fu Aa.fW Aa.fH Aa.fD) fun Ae=>k1 (w64 (Ac + Ae)) (w64 (Ab + 1)) else some (Ac)
def d_impl_VolumeOf_L1 (fu:Nat)  (Aa:(List Item)):Nat → Int → Int → Option (Int)
  | 0=>fun _ _=>none
  | n + 1=>d_impl_VolumeOf_L1_B fu Aa (d_impl_VolumeOf_L1 fu Aa n)

def d_impl_VolumeOf (fu:Nat) (r1:Request) (Ab:List Int):Option (Int) :=
  obind (d_impl_itemsOf fu r1 Ab) fun Aa=>d_impl_VolumeOf_L1 fu Aa fu 0 0

def d_impl_GramOf_L1_B (fu:Nat)  (Ab:(List Item)) (k1:Int → Int → Option (Int)) (Ac:Int) (Aa:Int):Option (Int) :=
  bif (decide (Aa < ((Ab.length:Int)))) then obind (ix Ab Aa) fun Ad=>k1 (w64 (Ac + Ad.fGram)) (w64 (Aa + 1)) else some (Ac)
def d_impl_GramOf_L1 (fu:Nat)  (Aa:(List Item)):Nat → Int → Int → Option (Int)
  | 0=>fun _ _=>none
  | n + 1=>d_impl_GramOf_L1_B fu Aa (d_impl_GramOf_L1 fu Aa n)

def d_impl_GramOf (fu:Nat) (r1:Request) (Ab:List Int):Option (Int) :=
  obind (d_impl_itemsOf fu r1 Ab) fun Aa=>d_impl_GramOf_L1 fu Aa fu 0 0

def d_impl_within (fu:Nat) (r1:Request) (Aa:List Int) (t9:Typ):Option (Bool) :=
  obind (d_impl_VolumeOf fu r1 Aa) fun Ad=>obind (d_impl_Volume fu t9.fW t9.fH t9.fD) fun Ab=>bif (decide (Ad ≤ Ab)) then obind (d_impl_GramOf fu r1 Aa) fun Ac=>some (decide (Ac ≤ t9.fGram)) else some (false)

def d_impl_Room (fu:Nat) (r1:Request) (Ae:List Int) (u9:Int):Option (Bool) :=
  obind (d_impl_MasterOf fu r1) fun Aa=>obind (d_impl_sound fu r1) fun Ad=>bif Ad then obind (d_slices_Clone_int_int fu Ae) fun Ac=>obind (apnd 8 Ac (([u9]:List Int))) fun Ab=>obind (d_impl_within fu r1 Ab Aa.1) fun Af=>some (Af) else some (false)

def d_impl_NextFit_J1 (fu:Nat) (k3:List (List Int) → Int → Option ((List (List Int)))) (Ab:Int) (Aa:List (List Int)):Option ((List (List Int))) :=
  k3 Aa (w64 (Ab + 1))

def d_impl_NextFit_L1_B (fu:Nat)  (r1:Request) (Ad:(List Int)) (k3:List (List Int) → Int → Option ((List (List Int)))) (Aa:List (List Int)) (Ab:Int):Option ((List (List Int))) :=
  bif (decide (Ab < ((Ad.length:Int)))) then obind (ix Ad Ab) fun Ac=>bif (decide ((w64 (((Aa.length:Int)) - 1)) ≥ 0)) then obind (ix Aa (w64 (((Aa.length:Int)) - 1))) fun Ae=>obind (d_impl_Room fu r1 Ae Ac) fun Ag=>bif Ag then obind (ix Aa (w64 (((Aa.length:Int)) - 1))) fun Aj=>obind (apnd 8 Ae (([Ac]:List Int))) fun Af=>obind (ix Aa (w64 (((Aa.length:Int)) - 1))) fun Ak=>d_impl_NextFit_J1 fu k3 Ab (setx Aa (w64 (((Aa.length:Int)) - 1)) Af) else obind (apnd 24 Aa [([Ac]:List Int)]) fun Ah=>d_impl_NextFit_J1 fu k3 Ab Ah else obind (apnd 24 Aa [([Ac]:List Int)]) fun Ai=>d_impl_NextFit_J1 fu k3 Ab Ai else some (Aa)
def d_impl_NextFit_L1 (fu:Nat)  (r1:Request) (Aa:(List Int)):Nat → List (List Int) → Int → Option ((List (List Int)))
  | 0=>fun _ _=>none
  | n + 1=>d_impl_NextFit_L1_B fu r1 Aa (d_impl_NextFit_L1 fu r1 Aa n)

def d_impl_NextFit (fu:Nat) (r1:Request) (Ab:List Int):Option ((List (List Int))) :=
  obind (d_impl_thereOf fu r1 Ab) fun Aa=>d_impl_NextFit_L1 fu r1 Aa fu (([]:List (List Int))) 0

def d_impl_places_L1_B (fu:Nat)  (n1:Int) (k1:List Int → Int → Option ((List Int))) (Ab:List Int) (Aa:Int):Option ((List Int)) :=
  bif (decide (Aa < n1)) then obind (apnd 8 Ab (([Aa]:List Int))) fun Ac=>k1 Ac (w64 (Aa + 1)) else some (Ab)
def d_impl_places_L1 (fu:Nat)  (n1:Int):Nat → List Int → Int → Option ((List Int))
  | 0=>fun _ _=>none
  | n + 1=>d_impl_places_L1_B fu n1 (d_impl_places_L1 fu n1 n)

def d_impl_places (fu:Nat) (n1:Int):Option ((List Int)) :=
  d_impl_places_L1 fu n1 fu (([]:List Int)) 0

def d_impl_compare (fu:Nat) (a1:Int) (b2:Int):Option (Int) :=
  bif (decide (a1 < b2)) then some ((-1)) else bif (decide (a1 > b2)) then some (1) else some (0)

def d_impl_SortDown_1 (fu:Nat) (i1:Int) (j2:Int) (x3:List Int):Option (Int) :=
  obind (ix x3 j2) fun Ac=>obind (ix x3 i1) fun Aa=>obind (d_impl_compare fu Ac Aa) fun Ab=>some (Ab)

def d_slices_insertionSortCmpFunc_int_J1 (fu:Nat) (Ad:List Int → Int → Option ((List Int))) (Ab:List Int) (Aa:Int)  : Option ((List Int)) :=
  obind (ix Ab (w64 (Aa - 1))) fun Ac=>obind (ix Ab Aa) fun Ae=>obind (ix Ab Aa) fun Af=>obind (ix (setx Ab Aa Ac) (w64 (Aa - 1))) fun Ag=>Ad (setx (setx Ab Aa Ac) (w64 (Aa - 1)) Ae) (w64 (Aa - 1))

def d_slices_insertionSortCmpFunc_int_L1_B (fu:Nat) (k9:List Int → Int → Option ((List Int))) (a5:Int) (f7:Int → Int → Option Int) (Ac:Int) (Ad:List Int → Int → Option ((List Int))) (Aa:List Int) (Ab:Int):Option ((List Int)) :=
  bif (decide (Ab > a5)) then obind (ix Aa Ab) fun Ag=>obind (ix Aa (w64 (Ab - 1))) fun Ae=>obind (f7 Ag Ae) fun Af=>bif (decide (Af < 0)) then d_slices_insertionSortCmpFunc_int_J1 fu Ad Aa Ab else k9 Aa (w64 (Ac + 1)) else k9 Aa (w64 (Ac + 1))
def d_slices_insertionSortCmpFunc_int_L1 (fu:Nat) (k9:List Int → Int → Option ((List Int))) (a5:Int) (f7:Int → Int → Option Int) (Aa:Int):Nat → List Int → Int → Option ((List Int))
  | 0=>fun _ _=>none
  | n + 1=>d_slices_insertionSortCmpFunc_int_L1_B fu k9 a5 f7 Aa (d_slices_insertionSortCmpFunc_int_L1 fu k9 a5 f7 Aa n)

def d_slices_insertionSortCmpFunc_int_L2_B (fu:Nat)  (a5:Int) (b6:Int) (f7:Int → Int → Option Int) (k9:List Int → Int → Option ((List Int))) (Ab:List Int) (Aa:Int):Option ((List Int)) :=
  bif (decide (Aa < b6)) then d_slices_insertionSortCmpFunc_int_L1 fu k9 a5 f7 Aa fu Ab Aa else some (Ab)
def d_slices_insertionSortCmpFunc_int_L2 (fu:Nat)  (a5:Int) (b6:Int) (f7:Int → Int → Option Int):Nat → List Int → Int → Option ((List Int))
  | 0=>fun _ _=>none
  | n + 1=>d_slices_insertionSortCmpFunc_int_L2_B fu a5 b6 f7 (d_slices_insertionSortCmpFunc_int_L2 fu a5 b6 f7 n)

def d_slices_insertionSortCmpFunc_int (fu:Nat) (Aa:List Int) (a5:Int) (b6:Int) (f7:Int → Int → Option Int):Option ((List Int)) :=
  d_slices_insertionSortCmpFunc_int_L2 fu a5 b6 f7 fu Aa (w64 (a5 + 1))

def d_slices_symMergeCmpFunc_int (fu:Nat) (x0:List Int) (x1:Int) (x2:Int) (x3:Int) (x4:Int → Int → Option Int):Option ((List Int)):=none

def d_slices_stableCmpFunc_int_J1 (fu:Nat) (k6:List Int → Int → Option ((List Int))) (Aa:Int) (Ab:List Int):Option ((List Int)) :=
  k6 Ab (w64 (Aa * 2))

def d_slices_stableCmpFunc_int_L1_B (fu:Nat) (k6:List Int → Int → Option ((List Int))) (n5:Int) (f6:Int → Int → Option Int) (Aa:Int) (k7:List Int → Int → Int → Option ((List Int))) (Ad:List Int) (Ab:Int) (Ac:Int):Option ((List Int)) :=
  bif (decide (Ac ≤ n5)) then obind (d_slices_symMergeCmpFunc_int fu Ad Ab (w64 (Ab + Aa)) Ac f6) fun Af=>k7 Af Ac (w64 (Ac + (w64 (2 * Aa)))) else bif (decide ((w64 (Ab + Aa)) < n5)) then obind (d_slices_symMergeCmpFunc_int fu Ad Ab (w64 (Ab + Aa)) n5 f6) fun Ae=>d_slices_stableCmpFunc_int_J1 fu k6 Aa Ae else d_slices_stableCmpFunc_int_J1 fu k6 Aa Ad
def d_slices_stableCmpFunc_int_L1 (fu:Nat) (k6:List Int → Int → Option ((List Int))) (n5:Int) (f6:Int → Int → Option Int) (Aa:Int):Nat → List Int → Int → Int → Option ((List Int))
  | 0=>fun _ _ _=>none
  | n + 1=>d_slices_stableCmpFunc_int_L1_B fu k6 n5 f6 Aa (d_slices_stableCmpFunc_int_L1 fu k6 n5 f6 Aa n)

def d_slices_stableCmpFunc_int_L2_B (fu:Nat)  (n5:Int) (f6:Int → Int → Option Int) (k6:List Int → Int → Option ((List Int))) (Ab:List Int) (Aa:Int):Option ((List Int)) :=
  bif (decide (Aa < n5)) then d_slices_stableCmpFunc_int_L1 fu k6 n5 f6 Aa fu Ab 0 (w64 (2 * Aa)) else some (Ab)
def d_slices_stableCmpFunc_int_L2 (fu:Nat)  (n5:Int) (f6:Int → Int → Option Int):Nat → List Int → Int → Option ((List Int))
  | 0=>fun _ _=>none
  | n + 1=>d_slices_stableCmpFunc_int_L2_B fu n5 f6 (d_slices_stableCmpFunc_int_L2 fu n5 f6 n)

def d_slices_stableCmpFunc_int_L3_B (fu:Nat)  (n5:Int) (f6:Int → Int → Option Int) (k1:List Int → Int → Int → Option ((List Int))) (Ab:List Int) (Ac:Int) (Aa:Int):Option ((List Int)) :=
  bif (decide (Aa ≤ n5)) then obind (d_slices_insertionSortCmpFunc_int fu Ab Ac Aa f6) fun Ae=>k1 Ae Aa (w64 (Aa + 20)) else obind (d_slices_insertionSortCmpFunc_int fu Ab Ac n5 f6) fun Ad=>d_slices_stableCmpFunc_int_L2 fu n5 f6 fu Ad 20
def d_slices_stableCmpFunc_int_L3 (fu:Nat)  (n5:Int) (f6:Int → Int → Option Int):Nat → List Int → Int → Int → Option ((List Int))
  | 0=>fun _ _ _=>none
  | n + 1=>d_slices_stableCmpFunc_int_L3_B fu n5 f6 (d_slices_stableCmpFunc_int_L3 fu n5 f6 n)

def d_slices_stableCmpFunc_int (fu:Nat) (Aa:List Int) (n5:Int) (f6:Int → Int → Option Int):Option ((List Int)) :=
  d_slices_stableCmpFunc_int_L3 fu n5 f6 fu Aa 0 20

def d_slices_SortStableFunc_int_int (fu:Nat) (x1:List Int) (f5:Int → Int → Option Int):Option ((List Int)) :=
  obind (d_slices_stableCmpFunc_int fu x1 ((x1.length:Int)) f5) fun Aa=>some (Aa)

def d_impl_SortDown (fu:Nat) (Aa:List Int):Option ((List Int)) :=
  obind (d_impl_places fu ((Aa.length:Int))) fun x8=>obind (d_slices_SortStableFunc_int_int fu x8 (fun Ab Ad=>d_impl_SortDown_1 fu Ab Ad Aa)) fun Ac=>some (Ac)

def d_impl_FirstFit_1 (fu:Nat) (l1:List Int) (x5:Request) (Aa:Int):Option (Bool) :=
  obind (d_impl_Room fu x5 l1 Aa) fun Ab=>some (Ab)

def d_impl_FirstFit_J1 (fu:Nat) (k4:List (List Int) → Int → Option ((List (List Int)))) (Ab:Int) (Aa:List (List Int)):Option ((List (List Int))) :=
  k4 Aa (w64 (Ab + 1))

def d_impl_FirstFit_L1_B (fu:Nat)  (r1:Request) (Ak:(List Int)) (Ae:(List Int)) (k4:List (List Int) → Int → Option ((List (List Int)))) (Aa:List (List Int)) (Ac:Int):Option ((List (List Int))) :=
  bif (decide (Ac < ((Ae.length:Int)))) then obind (ix Ae Ac) fun Aj=>obind (ix Ak Aj) fun Ad=>obind (d_slices_IndexFunc_ints_int fu Aa (fun Ai=>d_impl_FirstFit_1 fu Ai r1 Ad)) fun Ab=>bif (decide (Ab < 0)) then obind (apnd 24 Aa [([Ad]:List Int)]) fun Af=>d_impl_FirstFit_J1 fu k4 Ac Af else obind (ix Aa Ab) fun Ag=>obind (apnd 8 Ag (([Ad]:List Int))) fun Ah=>obind (ix Aa Ab) fun Al=>d_impl_FirstFit_J1 fu k4 Ac (setx Aa Ab Ah) else some (Aa)
def d_impl_FirstFit_L1 (fu:Nat)  (r1:Request) (Aa:(List Int)) (Ab:(List Int)):Nat → List (List Int) → Int → Option ((List (List Int)))
  | 0=>fun _ _=>none
  | n + 1=>d_impl_FirstFit_L1_B fu r1 Aa Ab (d_impl_FirstFit_L1 fu r1 Aa Ab n)

def d_impl_FirstFit_L2_B (fu:Nat)  (r1:Request) (Ab:(List Int)) (k1:List Int → Int → Option ((List (List Int)))) (Ac:List Int) (Aa:Int):Option ((List (List Int))) :=
  bif (decide (Aa < ((Ab.length:Int)))) then obind (ix Ab Aa) fun Ag=>obind (d_impl_VolumeOf fu r1 (([Ag]:List Int))) fun Af=>obind (apnd 8 Ac (([Af]:List Int))) fun Ad=>k1 Ad (w64 (Aa + 1)) else obind (d_impl_SortDown fu Ac) fun Ae=>d_impl_FirstFit_L1 fu r1 Ab Ae fu (([]:List (List Int))) 0
def d_impl_FirstFit_L2 (fu:Nat)  (r1:Request) (Aa:(List Int)):Nat → List Int → Int → Option ((List (List Int)))
  | 0=>fun _ _=>none
  | n + 1=>d_impl_FirstFit_L2_B fu r1 Aa (d_impl_FirstFit_L2 fu r1 Aa n)

def d_impl_FirstFit (fu:Nat) (r1:Request) (Ab:List Int):Option ((List (List Int))) :=
  obind (d_impl_thereOf fu r1 Ab) fun Aa=>d_impl_FirstFit_L2 fu r1 Aa fu (([]:List Int)) 0

def d_impl_PackWay (fu:Nat) (r1:Request) (Aa:List Int):Option ((List (List Int))) :=
  bif (r1.fWay == 1) then obind (d_impl_NextFit fu r1 Aa) fun Ac=>some (Ac) else obind (d_impl_FirstFit fu r1 Aa) fun Ab=>some (Ab)

def d_impl_Holds_1 (fu:Nat) (x1:Item) (x2:Typ):Option (Bool) :=
  obind (d_impl_Fits fu x1 x2) fun x8=>some (!x8)

def d_impl_Holds_J1 (fu:Nat) (r1:Request) (Aa:List Int) (t9:Typ)  : Option (Bool) :=
  obind (d_impl_itemsOf fu r1 Aa) fun Ab=>obind (d_slices_ContainsFunc_impl_Item_impl_Item fu Ab (fun Ae=>d_impl_Holds_1 fu Ae t9)) fun Ad=>bif (!Ad) then obind (d_impl_within fu r1 Aa t9) fun Ac=>some (Ac) else some (false)

def d_impl_Holds (fu:Nat) (r1:Request) (Aa:List Int) (t9:Typ):Option (Bool) :=
  obind (d_impl_sound fu r1) fun Ab=>bif (!Ab) then some (false) else obind (d_impl_thereOf fu r1 Aa) fun Ac=>bif (((Ac.length:Int)) != ((Aa.length:Int))) then some (false) else d_impl_Holds_J1 fu r1 Aa t9

def d_impl_Cheapest_J1 (fu:Nat) (k3:Typ → Bool → Int → Option (Typ × Bool)) (Ab:Int) (Ac:Typ) (Aa:Bool):Option (Typ × Bool) :=
  k3 Ac Aa (w64 (Ab + 1))

def d_impl_Cheapest_L1_B (fu:Nat)  (r1:Request) (Af:List Int) (k3:Typ → Bool → Int → Option (Typ × Bool)) (Ac:Typ) (Ad:Bool) (Aa:Int):Option (Typ × Bool) :=
  bif (decide (Aa < ((r1.fTypes.length:Int)))) then obind (ix r1.fTypes Aa) fun Ab=>obind (d_impl_Holds fu r1 Af Ab) fun Ae=>bif (!Ae) then d_impl_Cheapest_J1 fu k3 Aa Ac Ad else bif (!Ad) then d_impl_Cheapest_J1 fu k3 Aa Ab true else bif (decide (Ab.fCost < Ac.fCost)) then d_impl_Cheapest_J1 fu k3 Aa Ab true else bif (Ab.fCost == Ac.fCost) then bif (decide (Ab.fId < Ac.fId)) then d_impl_Cheapest_J1 fu k3 Aa Ab true else d_impl_Cheapest_J1 fu k3 Aa Ac Ad else d_impl_Cheapest_J1 fu k3 Aa Ac Ad else some (Ac,Ad)
def d_impl_Cheapest_L1 (fu:Nat)  (r1:Request) (Aa:List Int):Nat → Typ → Bool → Int → Option (Typ × Bool)
  | 0=>fun _ _ _=>none
  | n + 1=>d_impl_Cheapest_L1_B fu r1 Aa (d_impl_Cheapest_L1 fu r1 Aa n)

def d_impl_Cheapest (fu:Nat) (r1:Request) (Aa:List Int):Option (Typ × Bool) :=
  d_impl_Cheapest_L1 fu r1 Aa fu ((⟨0,0,0,0,0,0,0⟩:Typ)) false 0

def d_impl_CartonsOf_L1_B (fu:Nat) (k3:List Carton → Int → Option ((List Carton))) (r1:Request) (Ab:Int) (Ac:(List (List Int))) (k4:List Carton → Int → Option ((List Carton))) (Ad:List Carton) (Aa:Int):Option ((List Carton)) :=
  bif (decide (Aa < ((Ac.length:Int)))) then obind (ix Ac Aa) fun Ae=>obind (d_impl_Cheapest fu r1 Ae) fun Af=>obind (d_slices_Sort_int_int fu Ae) fun Ah=>obind (apnd 40 Ad [(⟨Af.1.fId,Ab,Ah⟩:Carton)]) fun Ag=>k4 Ag (w64 (Aa + 1)) else k3 Ad (w64 (Ab + 1))
def d_impl_CartonsOf_L1 (fu:Nat) (k3:List Carton → Int → Option ((List Carton))) (r1:Request) (Aa:Int) (Ab:(List (List Int))):Nat → List Carton → Int → Option ((List Carton))
  | 0=>fun _ _=>none
  | n + 1=>d_impl_CartonsOf_L1_B fu k3 r1 Aa Ab (d_impl_CartonsOf_L1 fu k3 r1 Aa Ab n)

def d_impl_CartonsOf_L2_B (fu:Nat)  (r1:Request) (Ac:(List (List Int))) (k3:List Carton → Int → Option ((List Carton))) (Ab:List Carton) (Aa:Int):Option ((List Carton)) :=
  bif (decide (Aa < ((Ac.length:Int)))) then obind (d_impl_UnitsOf fu r1 Aa) fun Ae=>obind (d_impl_PackWay fu r1 Ae) fun Ad=>d_impl_CartonsOf_L1 fu k3 r1 Aa Ad fu Ab 0 else some (Ab)
def d_impl_CartonsOf_L2 (fu:Nat)  (r1:Request) (Aa:(List (List Int))):Nat → List Carton → Int → Option ((List Carton))
  | 0=>fun _ _=>none
  | n + 1=>d_impl_CartonsOf_L2_B fu r1 Aa (d_impl_CartonsOf_L2 fu r1 Aa n)

def d_impl_CartonsOf (fu:Nat) (r1:Request):Option ((List Carton)) :=
  obind (d_impl_GroupsOf fu r1) fun Aa=>d_impl_CartonsOf_L2 fu r1 Aa fu (([]:List Carton)) 0

def d_impl_Gross_J1 (fu:Nat) (r1:Request) (x5:Carton) (Aa:Typ × Bool)  : Option (Int) :=
  obind (d_impl_GramOf fu r1 x5.fUnits) fun Ab=>some (w64 (Aa.1.fTare + Ab))

def d_impl_Gross (fu:Nat) (r1:Request) (x5:Carton):Option (Int) :=
  obind (d_impl_TypeById fu r1 x5.fType) fun Aa=>bif (!Aa.2) then some (0) else obind (d_impl_sound fu r1) fun Ab=>bif (!Ab) then some (0) else d_impl_Gross_J1 fu r1 x5 Aa

def d_impl_BoxOf_J1 (fu:Nat) (r1:Request) (x5:Carton) (Aa:Typ × Bool)  : Option (Box) :=
  obind (d_impl_Gross fu r1 x5) fun Ab=>some ((⟨Aa.1.fW,Aa.1.fD,Aa.1.fH,Ab⟩:Box))

def d_impl_BoxOf (fu:Nat) (r1:Request) (x5:Carton):Option (Box) :=
  obind (d_impl_TypeById fu r1 x5.fType) fun Aa=>bif (!Aa.2) then some ((⟨0,0,0,0⟩:Box)) else obind (d_impl_sound fu r1) fun Ab=>bif (!Ab) then some ((⟨0,0,0,0⟩:Box)) else d_impl_BoxOf_J1 fu r1 x5 Aa

def d_impl_BoxesOk_1 (fu:Nat) (b1:Box) (x2:Pallet):Option (Bool) :=
  obind (d_impl_in fu b1.fW 1 x2.fW) fun x8=>bif (!x8) then some (true) else obind (d_impl_in fu b1.fD 1 x2.fD) fun Ab=>bif (!Ab) then some (true) else obind (d_impl_in fu b1.fH 1 x2.fH) fun Aa=>bif (!Aa) then some (true) else obind (d_impl_in fu b1.fGram 1 x2.fGram) fun Ac=>some (!Ac)

def d_slices_IndexFunc_impl_Box_impl_Box_L1_B (fu:Nat)  (Ab:List Box) (f5:Box → Option Bool) (k1:Int → Option (Int)) (Aa:Int):Option (Int) :=
  bif (decide (Aa < ((Ab.length:Int)))) then obind (ix Ab Aa) fun Ac=>obind (f5 Ac) fun Ad=>bif Ad then some (Aa) else k1 (w64 (Aa + 1)) else some ((-1))
def d_slices_IndexFunc_impl_Box_impl_Box_L1 (fu:Nat)  (Aa:List Box) (f5:Box → Option Bool):Nat → Int → Option (Int)
  | 0=>fun _=>none
  | n + 1=>d_slices_IndexFunc_impl_Box_impl_Box_L1_B fu Aa f5 (d_slices_IndexFunc_impl_Box_impl_Box_L1 fu Aa f5 n)

def d_slices_IndexFunc_impl_Box_impl_Box (fu:Nat) (Aa:List Box) (f5:Box → Option Bool):Option (Int) :=
  d_slices_IndexFunc_impl_Box_impl_Box_L1 fu Aa f5 fu 0

def d_slices_ContainsFunc_impl_Box_impl_Box (fu:Nat) (Aa:List Box) (f5:Box → Option Bool):Option (Bool) :=
  obind (d_slices_IndexFunc_impl_Box_impl_Box fu Aa f5) fun Ab=>some (decide (Ab ≥ 0))

def d_impl_BoxesOk (fu:Nat) (p1:Pallet) (Aa:List Box):Option (Bool) :=
  obind (d_impl_PalletOk fu p1) fun Ad=>bif Ad then obind (d_slices_ContainsFunc_impl_Box_impl_Box fu Aa (fun Ac=>d_impl_BoxesOk_1 fu Ac p1)) fun Ab=>some (!Ab) else some (false)

def d_impl_Shelves_J1 (fu:Nat) (k8:List Shelf → Int → Option ((List Shelf))) (Aa:Int) (Ab:List Shelf):Option ((List Shelf)) :=
  k8 Ab (w64 (Aa + 1))

def d_impl_Shelves_J2 (fu:Nat) (k8:List Shelf → Int → Option ((List Shelf))) (Ak:Int) (Ah:Int) (Ac:Box) (Ag:List Shelf) (Ad:Int):Option ((List Shelf)) :=
  obind (ix Ag Ad) fun Ab=>obind (apnd 8 Ab.fList (([Ah]:List Int))) fun Ae=>obind (some ((⟨((⟨Ae,Ab.fW,Ab.fD,Ab.fH,Ab.fGram⟩:Shelf)).fList,w64 ((((⟨Ae,Ab.fW,Ab.fD,Ab.fH,Ab.fGram⟩:Shelf)).fW) + Ac.fW),((⟨Ae,Ab.fW,Ab.fD,Ab.fH,Ab.fGram⟩:Shelf)).fD,((⟨Ae,Ab.fW,Ab.fD,Ab.fH,Ab.fGram⟩:Shelf)).fH,((⟨Ae,Ab.fW,Ab.fD,Ab.fH,Ab.fGram⟩:Shelf)).fGram⟩:Shelf))) fun Aa=>obind (some (setx (setx Ag Ad ((⟨Ae,Ab.fW,Ab.fD,Ab.fH,Ab.fGram⟩:Shelf))) Ad Aa)) fun Aj=>obind (some ((⟨((⟨Aa.fList,Aa.fW,if Ac.fD > Aa.fD then Ac.fD else Aa.fD,Aa.fH,Aa.fGram⟩:Shelf)).fList,((⟨Aa.fList,Aa.fW,if Ac.fD > Aa.fD then Ac.fD else Aa.fD,Aa.fH,Aa.fGram⟩:Shelf)).fW,((⟨Aa.fList,Aa.fW,if Ac.fD > Aa.fD then Ac.fD else Aa.fD,Aa.fH,Aa.fGram⟩:Shelf)).fD,if Ac.fH > (((⟨Aa.fList,Aa.fW,if Ac.fD > Aa.fD then Ac.fD else Aa.fD,Aa.fH,Aa.fGram⟩:Shelf)).fH) then Ac.fH else ((⟨Aa.fList,Aa.fW,if Ac.fD > Aa.fD then Ac.fD else Aa.fD,Aa.fH,Aa.fGram⟩:Shelf)).fH,((⟨Aa.fList,Aa.fW,if Ac.fD > Aa.fD then Ac.fD else Aa.fD,Aa.fH,Aa.fGram⟩:Shelf)).fGram⟩:Shelf))) fun Af=>obind (some (setx (setx Aj Ad ((⟨Aa.fList,Aa.fW,if Ac.fD > Aa.fD then Ac.fD else Aa.fD,Aa.fH,Aa.fGram⟩:Shelf))) Ad Af)) fun Ai=>d_impl_Shelves_J1 fu k8 Ak (setx Ai Ad ((⟨Af.fList,Af.fW,Af.fD,Af.fH,w64 (Af.fGram + Ac.fGram)⟩:Shelf)))

def d_impl_Shelves_L1_B (fu:Nat)  (p1:Pallet) (Ag:List Box) (Ae:(List Int)) (k8:List Shelf → Int → Option ((List Shelf))) (Aa:List Shelf) (Ac:Int):Option ((List Shelf)) :=
  bif (decide (Ac < ((Ae.length:Int)))) then obind (ix Ae Ac) fun Ad=>obind (ix Ag Ad) fun Ab=>bif (decide ((w64 (((Aa.length:Int)) - 1)) < 0)) then obind (apnd 56 Aa [(⟨[],0,0,0,0⟩:Shelf)]) fun Aj=>d_impl_Shelves_J2 fu k8 Ac Ad Ab Aj (w64 ((w64 (((Aa.length:Int)) - 1)) + 1)) else obind (ix Aa (w64 (((Aa.length:Int)) - 1))) fun Af=>bif (decide ((w64 (Af.fW + Ab.fW)) > p1.fW)) then obind (apnd 56 Aa [(⟨[],0,0,0,0⟩:Shelf)]) fun Ai=>d_impl_Shelves_J2 fu k8 Ac Ad Ab Ai (w64 ((w64 (((Aa.length:Int)) - 1)) + 1)) else obind (ix Aa (w64 (((Aa.length:Int)) - 1))) fun Ak=>bif (decide ((w64 (Af.fGram + Ab.fGram)) > p1.fGram)) then obind (apnd 56 Aa [(⟨[],0,0,0,0⟩:Shelf)]) fun Ah=>d_impl_Shelves_J2 fu k8 Ac Ad Ab Ah (w64 ((w64 (((Aa.length:Int)) - 1)) + 1)) else d_impl_Shelves_J2 fu k8 Ac Ad Ab Aa (w64 (((Aa.length:Int)) - 1)) else some (Aa)
def d_impl_Shelves_L1 (fu:Nat)  (p1:Pallet) (Ab:List Box) (Aa:(List Int)):Nat → List Shelf → Int → Option ((List Shelf))
  | 0=>fun _ _=>none
  | n + 1=>d_impl_Shelves_L1_B fu p1 Ab Aa (d_impl_Shelves_L1 fu p1 Ab Aa n)

def d_impl_Shelves_L2_B (fu:Nat)  (p1:Pallet) (Aa:List Box) (k1:List Int → Int → Option ((List Shelf))) (Ac:List Int) (Ab:Int):Option ((List Shelf)) :=
  bif (decide (Ab < ((Aa.length:Int)))) then obind (ix Aa Ab) fun Ae=>obind (apnd 8 Ac (([Ae.fD]:List Int))) fun Af=>k1 Af (w64 (Ab + 1)) else obind (d_impl_SortDown fu Ac) fun Ad=>d_impl_Shelves_L1 fu p1 Aa Ad fu (([]:List Shelf)) 0
def d_impl_Shelves_L2 (fu:Nat)  (p1:Pallet) (Aa:List Box):Nat → List Int → Int → Option ((List Shelf))
  | 0=>fun _ _=>none
  | n + 1=>d_impl_Shelves_L2_B fu p1 Aa (d_impl_Shelves_L2 fu p1 Aa n)

def d_impl_Shelves (fu:Nat) (p1:Pallet) (Aa:List Box):Option ((List Shelf)) :=
  obind (d_impl_BoxesOk fu p1 Aa) fun Ab=>bif (!Ab) then some (([]:List Shelf)) else d_impl_Shelves_L2 fu p1 Aa fu (([]:List Int)) 0

def d_impl_ShelvesOk_1 (fu:Nat) (Aa:Shelf) (x5:Pallet):Option (Bool) :=
  obind (d_impl_in fu Aa.fD 1 x5.fD) fun Ac=>bif (!Ac) then some (true) else obind (d_impl_in fu Aa.fH 1 x5.fH) fun Ab=>bif (!Ab) then some (true) else obind (d_impl_in fu Aa.fGram 1 x5.fGram) fun Ad=>some (!Ad)

def d_slices_IndexFunc_impl_Shelf_impl_Shelf_L1_B (fu:Nat)  (Ab:List Shelf) (f5:Shelf → Option Bool) (k1:Int → Option (Int)) (Aa:Int):Option (Int) :=
  bif (decide (Aa < ((Ab.length:Int)))) then obind (ix Ab Aa) fun Ac=>obind (f5 Ac) fun Ad=>bif Ad then some (Aa) else k1 (w64 (Aa + 1)) else some ((-1))
def d_slices_IndexFunc_impl_Shelf_impl_Shelf_L1 (fu:Nat)  (Aa:List Shelf) (f5:Shelf → Option Bool):Nat → Int → Option (Int)
  | 0=>fun _=>none
  | n + 1=>d_slices_IndexFunc_impl_Shelf_impl_Shelf_L1_B fu Aa f5 (d_slices_IndexFunc_impl_Shelf_impl_Shelf_L1 fu Aa f5 n)

def d_slices_IndexFunc_impl_Shelf_impl_Shelf (fu:Nat) (Aa:List Shelf) (f5:Shelf → Option Bool):Option (Int) :=
  d_slices_IndexFunc_impl_Shelf_impl_Shelf_L1 fu Aa f5 fu 0

def d_slices_ContainsFunc_impl_Shelf_impl_Shelf (fu:Nat) (Aa:List Shelf) (f5:Shelf → Option Bool):Option (Bool) :=
  obind (d_slices_IndexFunc_impl_Shelf_impl_Shelf fu Aa f5) fun Ab=>some (decide (Ab ≥ 0))

def d_impl_ShelvesOk (fu:Nat) (p1:Pallet) (Aa:List Shelf):Option (Bool) :=
  obind (d_impl_PalletOk fu p1) fun Ad=>bif Ad then obind (d_slices_ContainsFunc_impl_Shelf_impl_Shelf fu Aa (fun Ac=>d_impl_ShelvesOk_1 fu Ac p1)) fun Ab=>some (!Ab) else some (false)

def d_impl_LayersOf_J1 (fu:Nat) (k7:List Layer → Int → Option ((List Layer))) (Ab:Int) (Aa:List Layer):Option ((List Layer)) :=
  k7 Aa (w64 (Ab + 1))

def d_impl_LayersOf_J2 (fu:Nat) (k7:List Layer → Int → Option ((List Layer))) (Ag:Int) (Ac:Shelf) (Af:List Layer) (Ad:Int):Option ((List Layer)) :=
  obind (ix Af Ad) fun Ab=>obind (apnd 8 Ab.fShelves (([Ag]:List Int))) fun Ae=>obind (some ((⟨((⟨Ae,Ab.fD,Ab.fH,Ab.fGram⟩:Layer)).fShelves,w64 ((((⟨Ae,Ab.fD,Ab.fH,Ab.fGram⟩:Layer)).fD) + Ac.fD),((⟨Ae,Ab.fD,Ab.fH,Ab.fGram⟩:Layer)).fH,((⟨Ae,Ab.fD,Ab.fH,Ab.fGram⟩:Layer)).fGram⟩:Layer))) fun Aa=>obind (some (setx (setx Af Ad ((⟨Ae,Ab.fD,Ab.fH,Ab.fGram⟩:Layer))) Ad Aa)) fun Ai=>obind (some ((⟨((⟨Aa.fShelves,Aa.fD,if Ac.fH > Aa.fH then Ac.fH else Aa.fH,Aa.fGram⟩:Layer)).fShelves,((⟨Aa.fShelves,Aa.fD,if Ac.fH > Aa.fH then Ac.fH else Aa.fH,Aa.fGram⟩:Layer)).fD,((⟨Aa.fShelves,Aa.fD,if Ac.fH > Aa.fH then Ac.fH else Aa.fH,Aa.fGram⟩:Layer)).fH,w64 ((((⟨Aa.fShelves,Aa.fD,if Ac.fH > Aa.fH then Ac.fH else Aa.fH,Aa.fGram⟩:Layer)).fGram) + Ac.fGram)⟩:Layer))) fun Aj=>obind (some (setx (setx Ai Ad ((⟨Aa.fShelves,Aa.fD,if Ac.fH > Aa.fH then Ac.fH else Aa.fH,Aa.fGram⟩:Layer))) Ad Aj)) fun Ah=>d_impl_LayersOf_J1 fu k7 Ag Ah

def d_impl_LayersOf_L1_B (fu:Nat)  (p1:Pallet) (Ad:List Shelf) (k7:List Layer → Int → Option ((List Layer))) (Aa:List Layer) (Ac:Int):Option ((List Layer)) :=
  bif (decide (Ac < ((Ad.length:Int)))) then obind (ix Ad Ac) fun Ab=>bif (decide ((w64 (((Aa.length:Int)) - 1)) < 0)) then obind (apnd 48 Aa [(⟨[],0,0,0⟩:Layer)]) fun Ah=>d_impl_LayersOf_J2 fu k7 Ac Ab Ah (w64 ((w64 (((Aa.length:Int)) - 1)) + 1)) else obind (ix Aa (w64 (((Aa.length:Int)) - 1))) fun Ae=>bif (decide ((w64 (Ae.fD + Ab.fD)) > p1.fD)) then obind (apnd 48 Aa [(⟨[],0,0,0⟩:Layer)]) fun Af=>d_impl_LayersOf_J2 fu k7 Ac Ab Af (w64 ((w64 (((Aa.length:Int)) - 1)) + 1)) else obind (ix Aa (w64 (((Aa.length:Int)) - 1))) fun Ai=>bif (decide ((w64 (Ae.fGram + Ab.fGram)) > p1.fGram)) then obind (apnd 48 Aa [(⟨[],0,0,0⟩:Layer)]) fun Ag=>d_impl_LayersOf_J2 fu k7 Ac Ab Ag (w64 ((w64 (((Aa.length:Int)) - 1)) + 1)) else d_impl_LayersOf_J2 fu k7 Ac Ab Aa (w64 (((Aa.length:Int)) - 1)) else some (Aa)
def d_impl_LayersOf_L1 (fu:Nat)  (p1:Pallet) (Aa:List Shelf):Nat → List Layer → Int → Option ((List Layer))
  | 0=>fun _ _=>none
  | n + 1=>d_impl_LayersOf_L1_B fu p1 Aa (d_impl_LayersOf_L1 fu p1 Aa n)

def d_impl_LayersOf (fu:Nat) (p1:Pallet) (Aa:List Shelf):Option ((List Layer)) :=
  obind (d_impl_ShelvesOk fu p1 Aa) fun Ab=>bif (!Ab) then some (([]:List Layer)) else d_impl_LayersOf_L1 fu p1 Aa fu (([]:List Layer)) 0

def d_impl_StacksOk_1 (fu:Nat) (x1:Layer) (x5:Pallet):Option (Bool) :=
  obind (d_impl_in fu x1.fD 1 x5.fD) fun Ab=>bif (!Ab) then some (true) else obind (d_impl_in fu x1.fH 1 x5.fH) fun Aa=>bif (!Aa) then some (true) else obind (d_impl_in fu x1.fGram 1 x5.fGram) fun Ac=>some (!Ac)

def d_slices_IndexFunc_impl_Layer_impl_Layer_L1_B (fu:Nat)  (Ab:List Layer) (f5:Layer → Option Bool) (k1:Int → Option (Int)) (Aa:Int):Option (Int) :=
  bif (decide (Aa < ((Ab.length:Int)))) then obind (ix Ab Aa) fun Ac=>obind (f5 Ac) fun Ad=>bif Ad then some (Aa) else k1 (w64 (Aa + 1)) else some ((-1))
def d_slices_IndexFunc_impl_Layer_impl_Layer_L1 (fu:Nat)  (Aa:List Layer) (f5:Layer → Option Bool):Nat → Int → Option (Int)
  | 0=>fun _=>none
  | n + 1=>d_slices_IndexFunc_impl_Layer_impl_Layer_L1_B fu Aa f5 (d_slices_IndexFunc_impl_Layer_impl_Layer_L1 fu Aa f5 n)

def d_slices_IndexFunc_impl_Layer_impl_Layer (fu:Nat) (Aa:List Layer) (f5:Layer → Option Bool):Option (Int) :=
  d_slices_IndexFunc_impl_Layer_impl_Layer_L1 fu Aa f5 fu 0

def d_slices_ContainsFunc_impl_Layer_impl_Layer (fu:Nat) (Aa:List Layer) (f5:Layer → Option Bool):Option (Bool) :=
  obind (d_slices_IndexFunc_impl_Layer_impl_Layer fu Aa f5) fun Ab=>some (decide (Ab ≥ 0))

def d_impl_StacksOk (fu:Nat) (p1:Pallet) (Aa:List Layer):Option (Bool) :=
  obind (d_impl_PalletOk fu p1) fun Ad=>bif Ad then obind (d_slices_ContainsFunc_impl_Layer_impl_Layer fu Aa (fun Ac=>d_impl_StacksOk_1 fu Ac p1)) fun Ab=>some (!Ab) else some (false)

def d_impl_LoadsOf_J1 (fu:Nat) (k7:List Load → Int → Option ((List Load))) (Ab:Int) (Aa:List Load):Option ((List Load)) :=
  k7 Aa (w64 (Ab + 1))

def d_impl_LoadsOf_J2 (fu:Nat) (k7:List Load → Int → Option ((List Load))) (Af:Int) (Ae:Layer) (Ag:List Load) (Ab:Int):Option ((List Load)) :=
  obind (ix Ag Ab) fun Aa=>obind (apnd 8 Aa.fLayers (([Af]:List Int))) fun Ac=>obind (some ((⟨((⟨Ac,Aa.fH,Aa.fGram⟩:Load)).fLayers,w64 ((((⟨Ac,Aa.fH,Aa.fGram⟩:Load)).fH) + Ae.fH),((⟨Ac,Aa.fH,Aa.fGram⟩:Load)).fGram⟩:Load))) fun Ad=>obind (some (setx (setx Ag Ab ((⟨Ac,Aa.fH,Aa.fGram⟩:Load))) Ab Ad)) fun Ah=>d_impl_LoadsOf_J1 fu k7 Af (setx Ah Ab ((⟨Ad.fLayers,Ad.fH,w64 (Ad.fGram + Ae.fGram)⟩:Load)))

def d_impl_LoadsOf_L1_B (fu:Nat)  (p1:Pallet) (Ae:List Layer) (k7:List Load → Int → Option ((List Load))) (Aa:List Load) (Ac:Int):Option ((List Load)) :=
  bif (decide (Ac < ((Ae.length:Int)))) then obind (ix Ae Ac) fun Ab=>bif (decide ((w64 (((Aa.length:Int)) - 1)) < 0)) then obind (apnd 40 Aa [(⟨[],0,0⟩:Load)]) fun Af=>d_impl_LoadsOf_J2 fu k7 Ac Ab Af (w64 ((w64 (((Aa.length:Int)) - 1)) + 1)) else obind (ix Aa (w64 (((Aa.length:Int)) - 1))) fun Ad=>bif (decide ((w64 (Ad.fH + Ab.fH)) > p1.fH)) then obind (apnd 40 Aa [(⟨[],0,0⟩:Load)]) fun Ag=>d_impl_LoadsOf_J2 fu k7 Ac Ab Ag (w64 ((w64 (((Aa.length:Int)) - 1)) + 1)) else obind (ix Aa (w64 (((Aa.length:Int)) - 1))) fun Ai=>bif (decide ((w64 (Ad.fGram + Ab.fGram)) > p1.fGram)) then obind (apnd 40 Aa [(⟨[],0,0⟩:Load)]) fun Ah=>d_impl_LoadsOf_J2 fu k7 Ac Ab Ah (w64 ((w64 (((Aa.length:Int)) - 1)) + 1)) else d_impl_LoadsOf_J2 fu k7 Ac Ab Aa (w64 (((Aa.length:Int)) - 1)) else some (Aa)
def d_impl_LoadsOf_L1 (fu:Nat)  (p1:Pallet) (Aa:List Layer):Nat → List Load → Int → Option ((List Load))
  | 0=>fun _ _=>none
  | n + 1=>d_impl_LoadsOf_L1_B fu p1 Aa (d_impl_LoadsOf_L1 fu p1 Aa n)

def d_impl_LoadsOf (fu:Nat) (p1:Pallet) (Aa:List Layer):Option ((List Load)) :=
  obind (d_impl_StacksOk fu p1 Aa) fun Ab=>bif (!Ab) then some (([]:List Load)) else d_impl_LoadsOf_L1 fu p1 Aa fu (([]:List Load)) 0

def d_impl_SpotsOf_L1_B (fu:Nat) (Ak:List Spot → Int → Int → Option ((List Spot))) (Al:List Box) (Ag:(List Shelf)) (Aj:Int) (Ao:Int) (Ad:Int) (Am:Int) (Ap:Int) (Ae:Shelf) (Aq:List Spot → Int → Int → Option ((List Spot))) (Aa:List Spot) (Af:Int) (Ab:Int):Option ((List Spot)) :=
  bif (decide (Ab < ((Ae.fList.length:Int)))) then obind (ix Ae.fList Ab) fun Ac=>obind (ix Aa Ac) fun Ar=>obind (ix Al Ac) fun Ah=>Aq (setx Aa Ac ((⟨Aj,Af,Ad,Ao⟩:Spot))) (w64 (Af + Ah.fW)) (w64 (Ab + 1)) else obind (ix Ag Ap) fun Ai=>Ak Aa (w64 (Ad + Ai.fD)) (w64 (Am + 1))
def d_impl_SpotsOf_L1 (fu:Nat) (Af:List Spot → Int → Int → Option ((List Spot))) (Ae:List Box) (Aa:(List Shelf)) (Ad:Int) (Ah:Int) (Ab:Int) (Ag:Int) (Ai:Int) (Ac:Shelf):Nat → List Spot → Int → Int → Option ((List Spot))
  | 0=>fun _ _ _=>none
  | n + 1=>d_impl_SpotsOf_L1_B fu Af Ae Aa Ad Ah Ab Ag Ai Ac (d_impl_SpotsOf_L1 fu Af Ae Aa Ad Ah Ab Ag Ai Ac n)

def d_impl_SpotsOf_L2_B (fu:Nat) (Am:List Spot → Int → Int → Option ((List Spot))) (Ak:List Box) (Ab:(List Shelf)) (Ap:(List Layer)) (Aj:Int) (Ae:Int) (Aq:Int) (Ag:Int) (Ac:Layer) (Al:List Spot → Int → Int → Option ((List Spot))) (Ad:List Spot) (Ah:Int) (Aa:Int):Option ((List Spot)) :=
  bif (decide (Aa < ((Ac.fShelves.length:Int)))) then obind (ix Ac.fShelves Aa) fun Af=>obind (ix Ab Af) fun Ai=>d_impl_SpotsOf_L1 fu Al Ak Ab Aj Ae Ah Aa Af Ai fu Ad 0 0 else obind (ix Ap Ag) fun Ao=>Am Ad (w64 (Ae + Ao.fH)) (w64 (Aq + 1))
def d_impl_SpotsOf_L2 (fu:Nat) (Af:List Spot → Int → Int → Option ((List Spot))) (Ae:List Box) (Ab:(List Shelf)) (Ah:(List Layer)) (Ad:Int) (Ag:Int) (Ai:Int) (Aa:Int) (Ac:Layer):Nat → List Spot → Int → Int → Option ((List Spot))
  | 0=>fun _ _ _=>none
  | n + 1=>d_impl_SpotsOf_L2_B fu Af Ae Ab Ah Ad Ag Ai Aa Ac (d_impl_SpotsOf_L2 fu Af Ae Ab Ah Ad Ag Ai Aa Ac n)

def d_impl_SpotsOf_L3_B (fu:Nat) (Ak:List Spot → Int → Option ((List Spot))) (Ai:List Box) (Ag:(List Shelf)) (Af:(List Layer)) (Ae:Int) (Ad:Load) (Aj:List Spot → Int → Int → Option ((List Spot))) (Ac:List Spot) (Al:Int) (Aa:Int):Option ((List Spot)) :=
  bif (decide (Aa < ((Ad.fLayers.length:Int)))) then obind (ix Ad.fLayers Aa) fun Ab=>obind (ix Af Ab) fun Ah=>d_impl_SpotsOf_L2 fu Aj Ai Ag Af Ae Al Aa Ab Ah fu Ac 0 0 else Ak Ac (w64 (Ae + 1))
def d_impl_SpotsOf_L3 (fu:Nat) (Ae:List Spot → Int → Option ((List Spot))) (Ad:List Box) (Aa:(List Shelf)) (Af:(List Layer)) (Ac:Int) (Ab:Load):Nat → List Spot → Int → Int → Option ((List Spot))
  | 0=>fun _ _ _=>none
  | n + 1=>d_impl_SpotsOf_L3_B fu Ae Ad Aa Af Ac Ab (d_impl_SpotsOf_L3 fu Ae Ad Aa Af Ac Ab n)

def d_impl_SpotsOf_L4_B (fu:Nat)  (Af:List Box) (Ad:(List Shelf)) (Ah:(List Layer)) (Ab:(List Load)) (Ag:List Spot → Int → Option ((List Spot))) (Ac:List Spot) (Aa:Int):Option ((List Spot)) :=
  bif (decide (Aa < ((Ab.length:Int)))) then obind (ix Ab Aa) fun Ae=>d_impl_SpotsOf_L3 fu Ag Af Ad Ah Aa Ae fu Ac 0 0 else some (Ac)
def d_impl_SpotsOf_L4 (fu:Nat)  (Ad:List Box) (Aa:(List Shelf)) (Ac:(List Layer)) (Ab:(List Load)):Nat → List Spot → Int → Option ((List Spot))
  | 0=>fun _ _=>none
  | n + 1=>d_impl_SpotsOf_L4_B fu Ad Aa Ac Ab (d_impl_SpotsOf_L4 fu Ad Aa Ac Ab n)

def d_impl_SpotsOf (fu:Nat) (p1:Pallet) (Aa:List Box):Option ((List Spot)) :=
  obind (d_impl_BoxesOk fu p1 Aa) fun Af=>bif (!Af) then some (([]:List Spot)) else obind (d_impl_Shelves fu p1 Aa) fun Ab=>obind (d_impl_LayersOf fu p1 Ab) fun Ac=>obind (mk 32 (⟨(0:Int),(0:Int),(0:Int),(0:Int)⟩:Spot) ((Aa.length:Int))) fun Ae=>obind (d_impl_LoadsOf fu p1 Ac) fun Ad=>d_impl_SpotsOf_L4 fu Aa Ab Ac Ad fu Ae 0

def d_impl_Pallets_J1 (fu:Nat) (k3:Int → Int → Option (Int)) (Aa:Int) (Ab:Int):Option (Int) :=
  k3 Ab (w64 (Aa + 1))

def d_impl_Pallets_L1_B (fu:Nat)  (Ad:List Spot) (k3:Int → Int → Option (Int)) (Aa:Int) (Ab:Int):Option (Int) :=
  bif (decide (Ab < ((Ad.length:Int)))) then obind (ix Ad Ab) fun Ac=>obind (d_impl_in fu Ac.fPallet 0 999999) fun Ae=>bif Ae then d_impl_Pallets_J1 fu k3 Ab (if (w64 (Ac.fPallet + 1)) > Aa then w64 (Ac.fPallet + 1) else Aa) else d_impl_Pallets_J1 fu k3 Ab Aa else some (Aa)
def d_impl_Pallets_L1 (fu:Nat)  (Aa:List Spot):Nat → Int → Int → Option (Int)
  | 0=>fun _ _=>none
  | n + 1=>d_impl_Pallets_L1_B fu Aa (d_impl_Pallets_L1 fu Aa n)

def d_impl_Pallets (fu:Nat) (Aa:List Spot):Option (Int) :=
  d_impl_Pallets_L1 fu Aa fu 0 0

def d_impl_PlanOf_J1 (fu:Nat) (Ab:List Box → Int → Option (Plan × Bool)) (Ac:Int) (Aa:List Box):Option (Plan × Bool) :=
  Ab Aa (w64 (Ac + 1))

def d_impl_PlanOf_L1_B (fu:Nat) (Aj:List Spot → Int → Int → Option (Plan × Bool)) (Ae:Int) (Af:Int) (Ac:(List Spot)) (Ai:Int) (Ah:List Spot → Int → Option (Plan × Bool)) (Ad:List Spot) (Ab:Int):Option (Plan × Bool) :=
  bif (decide (Ab < ((Ac.length:Int)))) then obind (ix Ac Ab) fun Aa=>obind (apnd 32 Ad (([(⟨w64 (Aa.fPallet + Ae),Aa.fX,Aa.fY,Aa.fZ⟩:Spot)]:List Spot))) fun Ag=>Ah Ag (w64 (Ab + 1)) else Aj Ad (w64 (Ae + Ai)) (w64 (Af + 1))
def d_impl_PlanOf_L1 (fu:Nat) (Ad:List Spot → Int → Int → Option (Plan × Bool)) (Ae:Int) (Aa:Int) (Ab:(List Spot)) (Ac:Int):Nat → List Spot → Int → Option (Plan × Bool)
  | 0=>fun _ _=>none
  | n + 1=>d_impl_PlanOf_L1_B fu Ad Ae Aa Ab Ac (d_impl_PlanOf_L1 fu Ad Ae Aa Ab Ac n)

def d_impl_PlanOf_L2_B (fu:Nat) (Ak:List Spot → Int → Int → Option (Plan × Bool)) (r1:Request) (Ae:(List Carton)) (Al:List Spot) (Am:Int) (Ac:Int) (Af:List Box → Int → Option (Plan × Bool)) (Ab:List Box) (Aa:Int):Option (Plan × Bool) :=
  bif (decide (Aa < ((Ae.length:Int)))) then obind (ix Ae Aa) fun Ag=>bif (Ag.fGroup == Ac) then obind (d_impl_BoxOf fu r1 Ag) fun Aj=>obind (apnd 32 Ab (([Aj]:List Box))) fun Ai=>d_impl_PlanOf_J1 fu Af Aa Ai else d_impl_PlanOf_J1 fu Af Aa Ab else obind (d_impl_SpotsOf fu r1.fPallet Ab) fun Ad=>obind (d_impl_Pallets fu Ad) fun Ah=>d_impl_PlanOf_L1 fu Ak Am Ac Ad Ah fu Al 0
def d_impl_PlanOf_L2 (fu:Nat) (Ac:List Spot → Int → Int → Option (Plan × Bool)) (r1:Request) (Ab:(List Carton)) (Ad:List Spot) (Ae:Int) (Aa:Int):Nat → List Box → Int → Option (Plan × Bool)
  | 0=>fun _ _=>none
  | n + 1=>d_impl_PlanOf_L2_B fu Ac r1 Ab Ad Ae Aa (d_impl_PlanOf_L2 fu Ac r1 Ab Ad Ae Aa n)

def d_impl_PlanOf_L3_B (fu:Nat)  (r1:Request) (Ab:(List Carton)) (Ad:(List (List Int))) (Ae:List Spot → Int → Int → Option (Plan × Bool)) (Ac:List Spot) (Af:Int) (Aa:Int):Option (Plan × Bool) :=
  bif (decide (Aa < ((Ad.length:Int)))) then d_impl_PlanOf_L2 fu Ae r1 Ab Ac Af Aa fu (([]:List Box)) 0 else some ((⟨Ab,Ac⟩:Plan),true)
def d_impl_PlanOf_L3 (fu:Nat)  (r1:Request) (Aa:(List Carton)) (Ab:(List (List Int))):Nat → List Spot → Int → Int → Option (Plan × Bool)
  | 0=>fun _ _ _=>none
  | n + 1=>d_impl_PlanOf_L3_B fu r1 Aa Ab (d_impl_PlanOf_L3 fu r1 Aa Ab n)

def d_impl_PlanOf (fu:Nat) (r1:Request):Option (Plan × Bool) :=
  obind (d_impl_sound fu r1) fun Ab=>bif (!Ab) then some ((⟨[],[]⟩:Plan),false) else obind (d_impl_CartonsOf fu r1) fun Aa=>obind (d_impl_GroupsOf fu r1) fun Ac=>d_impl_PlanOf_L3 fu r1 Aa Ac fu (([]:List Spot)) 0 0

def d_impl_unitsRight_J1 (fu:Nat) (k3:Int → Option (Bool)) (Aa:Int)  : Option (Bool) :=
  k3 (w64 (Aa + 1))

def d_impl_unitsRight_L1_B (fu:Nat)  (Ab:List Int) (k3:Int → Option (Bool)) (Aa:Int):Option (Bool) :=
  bif (decide (Aa < ((Ab.length:Int)))) then obind (ix Ab Aa) fun Ac=>obind (d_impl_in fu Ac 0 999) fun Ad=>bif (!Ad) then some (false) else bif (decide (Aa > 0)) then obind (ix Ab (w64 (Aa - 1))) fun Ae=>bif (decide (Ae ≥ Ac)) then some (false) else d_impl_unitsRight_J1 fu k3 Aa else d_impl_unitsRight_J1 fu k3 Aa else some (decide (((Ab.length:Int)) ≤ 100))
def d_impl_unitsRight_L1 (fu:Nat)  (Aa:List Int):Nat → Int → Option (Bool)
  | 0=>fun _=>none
  | n + 1=>d_impl_unitsRight_L1_B fu Aa (d_impl_unitsRight_L1 fu Aa n)

def d_impl_unitsRight (fu:Nat) (Aa:List Int):Option (Bool) :=
  d_impl_unitsRight_L1 fu Aa fu 0

def d_impl_isPlace (fu:Nat) (n1:Int):Option (Bool) :=
  obind (d_impl_in fu n1 0 2000) fun x2=>some (x2)

def d_impl_PlanOk_J1 (fu:Nat) (k4:Int → Option (Bool)) (Aa:Int)  : Option (Bool) :=
  k4 (w64 (Aa + 1))

def d_impl_PlanOk_L1_B (fu:Nat)  (x1:Plan) (k4:Int → Option (Bool)) (Aa:Int):Option (Bool) :=
  bif (decide (Aa < ((x1.fCartons.length:Int)))) then obind (ix x1.fCartons Aa) fun Ac=>obind (ix x1.fSpots Aa) fun Ab=>obind (d_impl_in fu Ac.fType 0 999) fun Ag=>bif (!Ag) then some (false) else obind (d_impl_in fu Ac.fGroup 0 3) fun Ae=>bif (!Ae) then some (false) else obind (d_impl_unitsRight fu Ac.fUnits) fun Ad=>bif (!Ad) then some (false) else obind (d_impl_isPlace fu Ab.fPallet) fun Ai=>bif (!Ai) then some (false) else obind (d_impl_isPlace fu Ab.fX) fun Ah=>bif (!Ah) then some (false) else obind (d_impl_isPlace fu Ab.fY) fun Aj=>bif (!Aj) then some (false) else obind (d_impl_isPlace fu Ab.fZ) fun Af=>bif (!Af) then some (false) else d_impl_PlanOk_J1 fu k4 Aa else some (true)
def d_impl_PlanOk_L1 (fu:Nat)  (x1:Plan):Nat → Int → Option (Bool)
  | 0=>fun _=>none
  | n + 1=>d_impl_PlanOk_L1_B fu x1 (d_impl_PlanOk_L1 fu x1 n)

def d_impl_PlanOk_J2 (fu:Nat) (x1:Plan)  : Option (Bool) :=
  d_impl_PlanOk_L1 fu x1 fu 0

def d_impl_PlanOk (fu:Nat) (x1:Plan):Option (Bool) :=
  bif (((x1.fSpots.length:Int)) != ((x1.fCartons.length:Int))) then some (false) else bif (decide (((x1.fCartons.length:Int)) > 100)) then some (false) else d_impl_PlanOk_J2 fu x1

def d_impl_textLine_L1_B (fu:Nat)  (Ac:List Int) (k1:ByteArray → Int → Option (ByteArray × Bool)) (Ab:ByteArray) (Aa:Int):Option (ByteArray × Bool) :=
  bif (decide (Aa < ((Ac.length:Int)))) then obind (ix Ac Aa) fun Ad=>obind (d_impl_in fu Ad 0 999999) fun Ah=>bif (!Ah) then some ((⟨#[]⟩:ByteArray),false) else obind (d_impl_Digits fu Ad) fun Ai=>obind (scat ((⟨#[32]⟩:ByteArray)) Ai) fun Af=>obind (scat Ab Af) fun Ae=>k1 Ae (w64 (Aa + 1)) else obind (scat Ab ((⟨#[10]⟩:ByteArray))) fun Ag=>some (Ag,true)
def d_impl_textLine_L1 (fu:Nat)  (Aa:List Int):Nat → ByteArray → Int → Option (ByteArray × Bool)
  | 0=>fun _ _=>none
  | n + 1=>d_impl_textLine_L1_B fu Aa (d_impl_textLine_L1 fu Aa n)

def d_impl_textLine (fu:Nat) (Aa:ByteArray) (Ab:List Int):Option (ByteArray × Bool) :=
  d_impl_textLine_L1 fu Ab fu Aa 0

def d_impl_PlanText_L1_B (fu:Nat)  (x1:Plan) (k1:ByteArray → Int → Option (ByteArray)) (Ad:ByteArray) (Ab:Int):Option (ByteArray) :=
  bif (decide (Ab < ((x1.fCartons.length:Int)))) then obind (ix x1.fCartons Ab) fun Ac=>obind (ix x1.fSpots Ab) fun Aa=>obind (apnd 8 (([Ac.fType,Ac.fGroup,Aa.fPallet,Aa.fX,Aa.fY,Aa.fZ]:List Int)) Ac.fUnits) fun Ae=>obind (d_impl_textLine fu ((⟨#[99,97,114,116,111,110]⟩:ByteArray)) Ae) fun Af=>obind (scat Ad Af.1) fun Ag=>k1 Ag (w64 (Ab + 1)) else some (Ad)
def d_impl_PlanText_L1 (fu:Nat)  (x1:Plan):Nat → ByteArray → Int → Option (ByteArray)
  | 0=>fun _ _=>none
  | n + 1=>d_impl_PlanText_L1_B fu x1 (d_impl_PlanText_L1 fu x1 n)

def d_impl_PlanText (fu:Nat) (x1:Plan):Option (ByteArray) :=
  obind (d_impl_PlanOk fu x1) fun Aa=>bif (!Aa) then some ((⟨#[]⟩:ByteArray)) else d_impl_PlanText_L1 fu x1 fu ((⟨#[]⟩:ByteArray)) 0

def d_impl_Pack (fu:Nat) (Aa:ByteArray):Option (ByteArray × Int) :=
  obind (d_impl_ClassOf fu Aa) fun x2=>bif (x2 != 0) then some ((⟨#[]⟩:ByteArray),x2) else obind (d_impl_ReadOrder fu Aa) fun x7=>obind (d_impl_PlanOf fu x7.1) fun Ab=>obind (d_impl_PlanText fu Ab.1) fun Ac=>some (Ac,0)

def d_impl_ClassText (fu:Nat) (Aa:Int):Option (ByteArray) :=
  obind (d_impl_in fu Aa 0 (w64 ((((([(⟨#[111,107]⟩:ByteArray),(⟨#[116,101,120,116]⟩:ByteArray),(⟨#[98,111,117,110,100,115]⟩:ByteArray),(⟨#[110,97,109,101,115]⟩:ByteArray),(⟨#[116,97,98,108,101]⟩:ByteArray),(⟨#[117,110,105,116]⟩:ByteArray),(⟨#[112,97,108,108,101,116]⟩:ByteArray)]:List ByteArray)).length:Int)) - 1))) fun x7=>bif (!x7) then some ((⟨#[]⟩:ByteArray)) else obind (ix (([(⟨#[111,107]⟩:ByteArray),(⟨#[116,101,120,116]⟩:ByteArray),(⟨#[98,111,117,110,100,115]⟩:ByteArray),(⟨#[110,97,109,101,115]⟩:ByteArray),(⟨#[116,97,98,108,101]⟩:ByteArray),(⟨#[117,110,105,116]⟩:ByteArray),(⟨#[112,97,108,108,101,116]⟩:ByteArray)]:List ByteArray)) Aa) fun Ab=>some (Ab)

def d_impl_refused (fu:Nat) (Ab:Int):Option (ByteArray) :=
  obind (d_impl_ClassText fu Ab) fun x2=>obind (scat ((⟨#[33,32]⟩:ByteArray)) x2) fun Aa=>some (Aa)

def d_impl_PackText (fu:Nat) (Aa:ByteArray):Option (ByteArray) :=
  obind (d_impl_Pack fu Aa) fun x2=>bif (x2.2 != 0) then obind (d_impl_refused fu x2.2) fun x7=>obind (scat x7 ((⟨#[10]⟩:ByteArray))) fun Ab=>some (Ab) else some (x2.1)

end Go.Proofs.YthkaklkinepfkaaGreatDoor
