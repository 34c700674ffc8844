/- FnExactVerify: what the functions that it reaches compute,on plain data. Printed by gen.py. -/
import Derived.Test.YthkaklkinepfkaaGreatDoorS12
import Derived.Test.YthkaklkinepfkaaGreatDoorS15
set_option linter.unusedVariables false
namespace Go.Proofs.YthkaklkinepfkaaGreatDoor
open Go
def d_spec_Parts_J1 (fu:Nat) (k3:List ByteArray → Int → Int → Option ((List ByteArray))) (Ab:Int) (Ac:List ByteArray) (Aa:Int):Option ((List ByteArray)) :=
  k3 Ac Aa (w64 (Ab + 1))

def d_spec_Parts_L1_B (fu:Nat)  (Ab:ByteArray) (Ai:Int) (k3:List ByteArray → Int → Int → Option ((List ByteArray))) (Ac:List ByteArray) (Ad:Int) (Aa:Int):Option ((List ByteArray)) :=
  bif (decide (Aa ≤ ((Ab.size:Int)))) then bif (Aa == ((Ab.size:Int))) then obind (ssl Ab Ad Aa) fun Ah=>obind (apnd 16 Ac (([Ah]:List ByteArray))) fun Ag=>d_spec_Parts_J1 fu k3 Aa Ag (w64 (Aa + 1)) else obind (sx Ab Aa) fun Aj=>bif (Aj == Ai) then obind (ssl Ab Ad Aa) fun Af=>obind (apnd 16 Ac (([Af]:List ByteArray))) fun Ae=>d_spec_Parts_J1 fu k3 Aa Ae (w64 (Aa + 1)) else d_spec_Parts_J1 fu k3 Aa Ac Ad else some (Ac)
def d_spec_Parts_L1 (fu:Nat)  (Ab:ByteArray) (Aa:Int):Nat → List ByteArray → Int → Int → Option ((List ByteArray))
  | 0=>fun _ _ _=>none
  | n + 1=>d_spec_Parts_L1_B fu Ab Aa (d_spec_Parts_L1 fu Ab Aa n)

def d_spec_Parts (fu:Nat) (Ab:ByteArray) (Aa:Int):Option ((List ByteArray)) :=
  d_spec_Parts_L1 fu Ab Aa fu (([]:List ByteArray)) 0 0

def d_spec_Digits_J1 (fu:Nat) (k3:Int → ByteArray → Option (ByteArray)) (Ad:Int) (Ae:ByteArray) (Ac:Int):Option (ByteArray) :=
  obind (bstr (([(⟨w8 (w64 (48 + Ac))⟩:U8)]:List U8))) fun Aa=>obind (scat Aa Ae) fun Ab=>k3 (w64 (Int.tdiv Ad 10)) Ab

def d_spec_Digits_L1_B (fu:Nat)  (n1:Int) (k3:Int → ByteArray → Option (ByteArray)) (Aa:Int) (Ab:ByteArray):Option (ByteArray) :=
  bif (Aa != 0) then bif (decide ((Int.tmod Aa 10) < 0)) then d_spec_Digits_J1 fu k3 Aa Ab (w64 (0 - (Int.tmod Aa 10))) else d_spec_Digits_J1 fu k3 Aa Ab (Int.tmod Aa 10) else bif (decide (n1 < 0)) then obind (scat ((⟨#[45]⟩:ByteArray)) Ab) fun Ac=>some (Ac) else some (Ab)
def d_spec_Digits_L1 (fu:Nat)  (n1:Int):Nat → Int → ByteArray → Option (ByteArray)
  | 0=>fun _ _=>none
  | n + 1=>d_spec_Digits_L1_B fu n1 (d_spec_Digits_L1 fu n1 n)

def d_spec_Digits (fu:Nat) (n1:Int):Option (ByteArray) :=
  bif (n1 == 0) then some ((⟨#[48]⟩:ByteArray)) else d_spec_Digits_L1 fu n1 fu n1 ((⟨#[]⟩:ByteArray))

def d_spec_Number_J1 (fu:Nat) (k8:Int → Int → Option (Int × Bool)) (Aa:Int) (Ab:Int):Option (Int × Bool) :=
  k8 Ab (w64 (Aa + 1))

def d_spec_Number_J2 (fu:Nat) (k8:Int → Int → Option (Int × Bool)) (Ad:ByteArray) (Ac:Int) (Aa:Int)  : Option (Int × Bool) :=
  obind (sx Ad Aa) fun Ab=>d_spec_Number_J1 fu k8 Aa (w64 ((w64 ((w64 (10 * Ac)) + (w64 Ab))) - 48))

def d_spec_Number_L1_B (fu:Nat)  (Aa:ByteArray) (k8:Int → Int → Option (Int × Bool)) (Ac:Int) (Ab:Int):Option (Int × Bool) :=
  bif (decide (Ab < ((Aa.size:Int)))) then obind (sx Aa Ab) fun Ad=>bif (decide (Ad < 48)) then some (0,false) else obind (sx Aa Ab) fun Ae=>bif (decide (Ae > 57)) then some (0,false) else d_spec_Number_J2 fu k8 Aa Ac Ab else obind (d_spec_Digits fu Ac) fun Af=>bif (!(Af.toList == Aa.toList)) then some (0,false) else some (Ac,true)
def d_spec_Number_L1 (fu:Nat)  (Aa:ByteArray):Nat → Int → Int → Option (Int × Bool)
  | 0=>fun _ _=>none
  | n + 1=>d_spec_Number_L1_B fu Aa (d_spec_Number_L1 fu Aa n)

def d_spec_Number_J3 (fu:Nat) (Aa:ByteArray)  : Option (Int × Bool) :=
  d_spec_Number_L1 fu Aa fu 0 0

def d_spec_Number (fu:Nat) (Aa:ByteArray):Option (Int × Bool) :=
  bif (decide (((Aa.size:Int)) < 1)) then some (0,false) else bif (decide (((Aa.size:Int)) > 6)) then some (0,false) else d_spec_Number_J3 fu Aa

def d_spec_l4Nums_L1_B (fu:Nat)  (x4:(List ByteArray)) (k2:List Int → Int → Option ((List Int) × Bool)) (Ab:List Int) (Aa:Int):Option ((List Int) × Bool) :=
  bif (decide (Aa < ((x4.length:Int)))) then obind (ix x4 Aa) fun Ad=>obind (d_spec_Number fu Ad) fun Ac=>bif (!Ac.2) then some (([]:List Int),false) else obind (apnd 8 Ab (([Ac.1]:List Int))) fun Ae=>k2 Ae (w64 (Aa + 1)) else some (Ab,true)
def d_spec_l4Nums_L1 (fu:Nat)  (x4:(List ByteArray)):Nat → List Int → Int → Option ((List Int) × Bool)
  | 0=>fun _ _=>none
  | n + 1=>d_spec_l4Nums_L1_B fu x4 (d_spec_l4Nums_L1 fu x4 n)

def d_spec_l4Nums_J1 (fu:Nat) (x4:(List ByteArray))  : Option ((List Int) × Bool) :=
  d_spec_l4Nums_L1 fu x4 fu (([]:List Int)) 1

def d_spec_l4Nums (fu:Nat) (Ac:ByteArray) (Aa:ByteArray) (Ab:Int):Option ((List Int) × Bool) :=
  obind (d_spec_Parts fu Ac 32) fun x4=>obind (ix x4 0) fun Ad=>bif (!(Ad.toList == Aa.toList)) then some (([]:List Int),false) else bif (((x4.length:Int)) != (w64 (Ab + 1))) then some (([]:List Int),false) else d_spec_l4Nums_J1 fu x4

def d_spec_l4Line (fu:Nat) (Aa:List ByteArray) (Ac:Int) (Ae:ByteArray) (Af:Int):Option ((List Int) × Bool) :=
  bif (decide (Ac ≥ (w64 (((Aa.length:Int)) - 1)))) then some (([]:List Int),false) else obind (ix Aa Ac) fun Ad=>obind (d_spec_l4Nums fu Ad Ae Af) fun Ab=>some (Ab.1,Ab.2)

def d_spec_ReadOrder_L1_B (fu:Nat)  (x5:(List ByteArray)) (Au:Int) (Aj:Int) (Ae:Int) (Aq:Int) (At:Int) (Ai:Int) (Ap:List Pair) (Av:List Typ) (Ak:Int) (k5:List Item → Int → List Int → Bool → Option (Request × Int)) (Ac:List Item) (Ab:Int) (Aa:List Int) (Ao:Bool):Option (Request × Int) :=
  bif Ao then obind (ix Aa 0) fun Ah=>obind (ix Aa 1) fun Ax=>obind (ix Aa 2) fun Aw=>obind (ix Aa 3) fun Ag=>obind (ix Aa 4) fun Ar=>obind (ix Aa 5) fun Al=>obind (ix Aa 6) fun Am=>obind (apnd 56 Ac (([(⟨Ah,Ax,Aw,Ag,Ar,Al,Am⟩:Item)]:List Item))) fun As=>obind (d_spec_l4Line fu x5 (w64 (Ab + 1)) ((⟨#[105,116,101,109]⟩:ByteArray)) 7) fun Ad=>k5 As (w64 (Ab + 1)) Ad.1 Ad.2 else bif (decide (Ab < (w64 (((x5.length:Int)) - 1)))) then some ((⟨0,(⟨0,0,0,0⟩:Pallet),0,[],[],0,[]⟩:Request),Ab) else obind (ix x5 (w64 (((x5.length:Int)) - 1))) fun Af=>bif (!(Af.toList == ((⟨#[]⟩:ByteArray)).toList)) then some ((⟨0,(⟨0,0,0,0⟩:Pallet),0,[],[],0,[]⟩:Request),Ab) else some ((⟨Au,(⟨Aj,Ae,Aq,At⟩:Pallet),Ai,Ap,Av,Ak,Ac⟩:Request),(-1))
def d_spec_ReadOrder_L1 (fu:Nat)  (x5:(List ByteArray)) (Ai:Int) (Ag:Int) (Ad:Int) (Ac:Int) (Ae:Int) (Af:Int) (Aa:List Pair) (Ab:List Typ) (Ah:Int):Nat → List Item → Int → List Int → Bool → Option (Request × Int)
  | 0=>fun _ _ _ _=>none
  | n + 1=>d_spec_ReadOrder_L1_B fu x5 Ai Ag Ad Ac Ae Af Aa Ab Ah (d_spec_ReadOrder_L1 fu x5 Ai Ag Ad Ac Ae Af Aa Ab Ah n)

def d_spec_ReadOrder_L2_B (fu:Nat)  (x5:(List ByteArray)) (At:Int) (Aj:Int) (Ah:Int) (Ap:Int) (As:Int) (Ai:Int) (Ao:List Pair) (k4:List Typ → Int → List Int → Bool → Option (Request × Int)) (Af:List Typ) (Ab:Int) (Aa:List Int) (Ag:Bool):Option (Request × Int) :=
  bif Ag then obind (ix Aa 0) fun Au=>obind (ix Aa 1) fun Am=>obind (ix Aa 2) fun Ak=>obind (ix Aa 3) fun Ar=>obind (ix Aa 4) fun Av=>obind (ix Aa 5) fun Ax=>obind (ix Aa 6) fun Aq=>obind (apnd 56 Af (([(⟨Au,Am,Ak,Ar,Av,Ax,Aq⟩:Typ)]:List Typ))) fun Aw=>obind (d_spec_l4Line fu x5 (w64 (Ab + 1)) ((⟨#[116,121,112,101]⟩:ByteArray)) 7) fun Ad=>k4 Aw (w64 (Ab + 1)) Ad.1 Ad.2 else obind (d_spec_l4Line fu x5 Ab ((⟨#[109,97,115,116,101,114]⟩:ByteArray)) 1) fun Ac=>bif (!Ac.2) then some ((⟨0,(⟨0,0,0,0⟩:Pallet),0,[],[],0,[]⟩:Request),Ab) else obind (ix Ac.1 0) fun Al=>obind (d_spec_l4Line fu x5 (w64 (Ab + 1)) ((⟨#[105,116,101,109]⟩:ByteArray)) 7) fun Ae=>d_spec_ReadOrder_L1 fu x5 At Aj Ah Ap As Ai Ao Af Al fu (([]:List Item)) (w64 (Ab + 1)) Ae.1 Ae.2
def d_spec_ReadOrder_L2 (fu:Nat)  (x5:(List ByteArray)) (Ag:Int) (Af:Int) (Ac:Int) (Ab:Int) (Ad:Int) (Ae:Int) (Aa:List Pair):Nat → List Typ → Int → List Int → Bool → Option (Request × Int)
  | 0=>fun _ _ _ _=>none
  | n + 1=>d_spec_ReadOrder_L2_B fu x5 Ag Af Ac Ab Ad Ae Aa (d_spec_ReadOrder_L2 fu x5 Ag Af Ac Ab Ad Ae Aa n)

def d_spec_ReadOrder_L3_B (fu:Nat)  (x5:(List ByteArray)) (Ap:Int) (Ao:Int) (Ag:Int) (Af:Int) (Aj:Int) (Ak:Int) (k3:List Pair → Int → List Int → Bool → Option (Request × Int)) (Ab:List Pair) (Aa:Int) (Ae:List Int) (Ah:Bool):Option (Request × Int) :=
  bif Ah then obind (ix Ae 0) fun Ai=>obind (ix Ae 1) fun Al=>obind (apnd 16 Ab (([(⟨Ai,Al⟩:Pair)]:List Pair))) fun Am=>obind (d_spec_l4Line fu x5 (w64 (Aa + 1)) ((⟨#[119,105,116,104]⟩:ByteArray)) 2) fun Ac=>k3 Am (w64 (Aa + 1)) Ac.1 Ac.2 else obind (d_spec_l4Line fu x5 Aa ((⟨#[116,121,112,101]⟩:ByteArray)) 7) fun Ad=>d_spec_ReadOrder_L2 fu x5 Ap Ao Ag Af Aj Ak Ab fu (([]:List Typ)) Aa Ad.1 Ad.2
def d_spec_ReadOrder_L3 (fu:Nat)  (x5:(List ByteArray)) (Af:Int) (Ae:Int) (Ab:Int) (Aa:Int) (Ac:Int) (Ad:Int):Nat → List Pair → Int → List Int → Bool → Option (Request × Int)
  | 0=>fun _ _ _ _=>none
  | n + 1=>d_spec_ReadOrder_L3_B fu x5 Af Ae Ab Aa Ac Ad (d_spec_ReadOrder_L3 fu x5 Af Ae Ab Aa Ac Ad n)

def d_spec_ReadOrder_J1 (fu:Nat) (x5:(List ByteArray)) (Ai:Int):Option (Request × Int) :=
  obind (d_spec_l4Line fu x5 1 ((⟨#[112,97,108,108,101,116]⟩:ByteArray)) 4) fun Aa=>bif (!Aa.2) then some ((⟨0,(⟨0,0,0,0⟩:Pallet),0,[],[],0,[]⟩:Request),1) else obind (ix Aa.1 0) fun Ah=>obind (ix Aa.1 1) fun Ae=>obind (ix Aa.1 2) fun Ad=>obind (ix Aa.1 3) fun Af=>obind (d_spec_l4Line fu x5 2 ((⟨#[99,108,97,115,115,101,115]⟩:ByteArray)) 1) fun Ab=>bif (!Ab.2) then some ((⟨0,(⟨0,0,0,0⟩:Pallet),0,[],[],0,[]⟩:Request),2) else obind (ix Ab.1 0) fun Ag=>obind (d_spec_l4Line fu x5 3 ((⟨#[119,105,116,104]⟩:ByteArray)) 2) fun Ac=>d_spec_ReadOrder_L3 fu x5 Ai Ah Ae Ad Af Ag fu (([]:List Pair)) 3 Ac.1 Ac.2

def d_spec_ReadOrder_J2 (fu:Nat) (x5:(List ByteArray))  : Option (Request × Int) :=
  obind (ix x5 0) fun Aa=>bif (Aa.toList == ((⟨#[119,97,121,32,110,101,120,116]⟩:ByteArray)).toList) then d_spec_ReadOrder_J1 fu x5 1 else d_spec_ReadOrder_J1 fu x5 0

def d_spec_ReadOrder (fu:Nat) (Ab:ByteArray):Option (Request × Int) :=
  obind (d_spec_Parts fu Ab 10) fun x5=>bif (decide ((w64 (((x5.length:Int)) - 1)) > 60)) then some ((⟨0,(⟨0,0,0,0⟩:Pallet),0,[],[],0,[]⟩:Request),60) else bif (decide ((w64 (((x5.length:Int)) - 1)) < 1)) then some ((⟨0,(⟨0,0,0,0⟩:Pallet),0,[],[],0,[]⟩:Request),0) else obind (ix x5 0) fun Aa=>bif (!(Aa.toList == ((⟨#[119,97,121,32,102,105,114,115,116]⟩:ByteArray)).toList)) then obind (ix x5 0) fun Ac=>bif (!(Aa.toList == ((⟨#[119,97,121,32,110,101,120,116]⟩:ByteArray)).toList)) then some ((⟨0,(⟨0,0,0,0⟩:Pallet),0,[],[],0,[]⟩:Request),0) else d_spec_ReadOrder_J2 fu x5 else d_spec_ReadOrder_J2 fu x5

def d_spec_l1In (fu:Nat) (x1:Int) (Aa:Int) (Ab:Int):Option (Bool) :=
  bif (decide (x1 ≥ Aa)) then some (decide (x1 ≤ Ab)) else some (false)

def d_spec_l2Side (fu:Nat) (x1:Int):Option (Bool) :=
  obind (d_spec_l1In fu x1 1 2000) fun x2=>some (x2)

def d_spec_PalletOk (fu:Nat) (x1:Pallet):Option (Bool) :=
  obind (d_spec_l2Side fu x1.fW) fun x5=>bif x5 then obind (d_spec_l2Side fu x1.fD) fun Aa=>bif Aa then obind (d_spec_l2Side fu x1.fH) fun Ac=>bif Ac then obind (d_spec_l1In fu x1.fGram 1 100000) fun Ab=>some (Ab) else some (false) else some (false) else some (false)

def d_spec_l2Id (fu:Nat) (x1:Int):Option (Bool) :=
  obind (d_spec_l1In fu x1 0 999) fun x2=>some (x2)

def d_spec_TypeOk (fu:Nat) (x1:Typ):Option (Bool) :=
  obind (d_spec_l2Id fu x1.fId) fun x5=>bif x5 then obind (d_spec_l2Side fu x1.fW) fun Ab=>bif Ab then obind (d_spec_l2Side fu x1.fH) fun Ae=>bif Ae then obind (d_spec_l2Side fu x1.fD) fun Aa=>bif Aa then obind (d_spec_l1In fu x1.fTare 0 100000) fun Af=>bif Af then obind (d_spec_l1In fu x1.fGram 1 100000) fun Ac=>bif Ac then obind (d_spec_l1In fu x1.fCost 0 100000) fun Ad=>some (Ad) else some (false) else some (false) else some (false) else some (false) else some (false) else some (false)

def d_spec_ItemOk (fu:Nat) (x1:Item):Option (Bool) :=
  obind (d_spec_l2Id fu x1.fId) fun x5=>bif x5 then obind (d_spec_l2Side fu x1.fW) fun Ab=>bif Ab then obind (d_spec_l2Side fu x1.fH) fun Ae=>bif Ae then obind (d_spec_l2Side fu x1.fD) fun Aa=>bif Aa then obind (d_spec_l1In fu x1.fGram 1 100000) fun Af=>bif Af then obind (d_spec_l1In fu x1.fClass 0 3) fun Ac=>bif Ac then obind (d_spec_l1In fu x1.fCount 1 6) fun Ad=>some (Ad) else some (false) else some (false) else some (false) else some (false) else some (false) else some (false)

def d_spec_BoundsOk_J1 (fu:Nat) (k4:Int → Option (Bool)) (Aa:Int)  : Option (Bool) :=
  k4 (w64 (Aa + 1))

def d_spec_BoundsOk_L1_B (fu:Nat)  (r1:Request) (k7:Int → Int → Option (Bool)) (Ac:Int) (Aa:Int):Option (Bool) :=
  bif (decide (Aa < ((r1.fItems.length:Int)))) then obind (ix r1.fItems Aa) fun Ab=>obind (d_spec_ItemOk fu Ab) fun Ad=>bif (!Ad) then some (false) else obind (ix r1.fItems Aa) fun Ae=>k7 (w64 (Ac + Ab.fCount)) (w64 (Aa + 1)) else some (decide (Ac ≤ 12))
def d_spec_BoundsOk_L1 (fu:Nat)  (r1:Request):Nat → Int → Int → Option (Bool)
  | 0=>fun _ _=>none
  | n + 1=>d_spec_BoundsOk_L1_B fu r1 (d_spec_BoundsOk_L1 fu r1 n)

def d_spec_BoundsOk_L2_B (fu:Nat)  (r1:Request) (k6:Int → Option (Bool)) (Aa:Int):Option (Bool) :=
  bif (decide (Aa < ((r1.fTypes.length:Int)))) then obind (ix r1.fTypes Aa) fun Ab=>obind (d_spec_TypeOk fu Ab) fun Ac=>bif (!Ac) then some (false) else k6 (w64 (Aa + 1)) else d_spec_BoundsOk_L1 fu r1 fu 0 0
def d_spec_BoundsOk_L2 (fu:Nat)  (r1:Request):Nat → Int → Option (Bool)
  | 0=>fun _=>none
  | n + 1=>d_spec_BoundsOk_L2_B fu r1 (d_spec_BoundsOk_L2 fu r1 n)

def d_spec_BoundsOk_L3_B (fu:Nat)  (r1:Request) (k4:Int → Option (Bool)) (Aa:Int):Option (Bool) :=
  bif (decide (Aa < ((r1.fPairs.length:Int)))) then obind (ix r1.fPairs Aa) fun Ab=>obind (d_spec_l1In fu Ab.fA 0 3) fun Ad=>bif (!Ad) then some (false) else obind (ix r1.fPairs Aa) fun Ae=>obind (d_spec_l1In fu Ab.fB 0 3) fun Ac=>bif (!Ac) then some (false) else d_spec_BoundsOk_J1 fu k4 Aa else d_spec_BoundsOk_L2 fu r1 fu 0
def d_spec_BoundsOk_L3 (fu:Nat)  (r1:Request):Nat → Int → Option (Bool)
  | 0=>fun _=>none
  | n + 1=>d_spec_BoundsOk_L3_B fu r1 (d_spec_BoundsOk_L3 fu r1 n)

def d_spec_BoundsOk_J2 (fu:Nat) (r1:Request)  : Option (Bool) :=
  d_spec_BoundsOk_L3 fu r1 fu 0

def d_spec_BoundsOk (fu:Nat) (r1:Request):Option (Bool) :=
  obind (d_spec_l1In fu r1.fWay 0 1) fun Ad=>bif (!Ad) then some (false) else obind (d_spec_PalletOk fu r1.fPallet) fun Ae=>bif (!Ae) then some (false) else obind (d_spec_l1In fu r1.fClasses 1 4) fun Ac=>bif (!Ac) then some (false) else bif (decide (((r1.fPairs.length:Int)) > 16)) then some (false) else obind (d_spec_l1In fu ((r1.fTypes.length:Int)) 1 5) fun Ab=>bif (!Ab) then some (false) else obind (d_spec_l2Id fu r1.fMaster) fun Aa=>bif (!Aa) then some (false) else bif (decide (((r1.fItems.length:Int)) > 8)) then some (false) else d_spec_BoundsOk_J2 fu r1

def d_spec_MasterOf_L1_B (fu:Nat)  (r1:Request) (k1:Int → Option (Typ × Bool)) (Aa:Int):Option (Typ × Bool) :=
  bif (decide (Aa < ((r1.fTypes.length:Int)))) then obind (ix r1.fTypes Aa) fun Ab=>bif (Ab.fId == r1.fMaster) then obind (ix r1.fTypes Aa) fun Ac=>some (Ab,true) else k1 (w64 (Aa + 1)) else some ((⟨0,0,0,0,0,0,0⟩:Typ),false)
def d_spec_MasterOf_L1 (fu:Nat)  (r1:Request):Nat → Int → Option (Typ × Bool)
  | 0=>fun _=>none
  | n + 1=>d_spec_MasterOf_L1_B fu r1 (d_spec_MasterOf_L1 fu r1 n)

def d_spec_MasterOf (fu:Nat) (r1:Request):Option (Typ × Bool) :=
  d_spec_MasterOf_L1 fu r1 fu 0

def d_spec_l5Names_L1_B (fu:Nat) (k3:Int → Option (Bool)) (r1:Request) (Aa:Int) (k4:Int → Option (Bool)) (Ab:Int):Option (Bool) :=
  bif (decide (Ab < Aa)) then obind (ix r1.fTypes Aa) fun Ad=>obind (ix r1.fTypes Ab) fun Ac=>bif (Ad.fId == Ac.fId) then some (false) else k4 (w64 (Ab + 1)) else k3 (w64 (Aa + 1))
def d_spec_l5Names_L1 (fu:Nat) (k3:Int → Option (Bool)) (r1:Request) (Aa:Int):Nat → Int → Option (Bool)
  | 0=>fun _=>none
  | n + 1=>d_spec_l5Names_L1_B fu k3 r1 Aa (d_spec_l5Names_L1 fu k3 r1 Aa n)

def d_spec_l5Names_L2_B (fu:Nat) (k7:Int → Option (Bool)) (r1:Request) (Ab:Int) (k8:Int → Option (Bool)) (Aa:Int):Option (Bool) :=
  bif (decide (Aa < Ab)) then obind (ix r1.fItems Ab) fun Ac=>obind (ix r1.fItems Aa) fun Ad=>bif (Ac.fId == Ad.fId) then some (false) else k8 (w64 (Aa + 1)) else k7 (w64 (Ab + 1))
def d_spec_l5Names_L2 (fu:Nat) (k7:Int → Option (Bool)) (r1:Request) (Aa:Int):Nat → Int → Option (Bool)
  | 0=>fun _=>none
  | n + 1=>d_spec_l5Names_L2_B fu k7 r1 Aa (d_spec_l5Names_L2 fu k7 r1 Aa n)

def d_spec_l5Names_J1 (fu:Nat) (Ab:Int → Option (Bool)) (Aa:Int)  : Option (Bool) :=
  Ab (w64 (Aa + 1))

def d_spec_l5Names_L3_B (fu:Nat)  (r1:Request) (Ad:Int → Option (Bool)) (Aa:Int):Option (Bool) :=
  bif (decide (Aa < ((r1.fPairs.length:Int)))) then obind (ix r1.fPairs Aa) fun Ab=>bif (decide (Ab.fA ≥ r1.fClasses)) then some (false) else obind (ix r1.fPairs Aa) fun Ae=>bif (decide (Ab.fB ≥ r1.fClasses)) then some (false) else d_spec_l5Names_J1 fu Ad Aa else obind (d_spec_MasterOf fu r1) fun Ac=>some (Ac.2)
def d_spec_l5Names_L3 (fu:Nat)  (r1:Request):Nat → Int → Option (Bool)
  | 0=>fun _=>none
  | n + 1=>d_spec_l5Names_L3_B fu r1 (d_spec_l5Names_L3 fu r1 n)

def d_spec_l5Names_L4_B (fu:Nat)  (r1:Request) (k7:Int → Option (Bool)) (Aa:Int):Option (Bool) :=
  bif (decide (Aa < ((r1.fItems.length:Int)))) then obind (ix r1.fItems Aa) fun Ab=>bif (decide (Ab.fClass ≥ r1.fClasses)) then some (false) else d_spec_l5Names_L2 fu k7 r1 Aa fu 0 else d_spec_l5Names_L3 fu r1 fu 0
def d_spec_l5Names_L4 (fu:Nat)  (r1:Request):Nat → Int → Option (Bool)
  | 0=>fun _=>none
  | n + 1=>d_spec_l5Names_L4_B fu r1 (d_spec_l5Names_L4 fu r1 n)

def d_spec_l5Names_L5_B (fu:Nat)  (r1:Request) (k3:Int → Option (Bool)) (Aa:Int):Option (Bool) :=
  bif (decide (Aa < ((r1.fTypes.length:Int)))) then d_spec_l5Names_L1 fu k3 r1 Aa fu 0 else d_spec_l5Names_L4 fu r1 fu 0
def d_spec_l5Names_L5 (fu:Nat)  (r1:Request):Nat → Int → Option (Bool)
  | 0=>fun _=>none
  | n + 1=>d_spec_l5Names_L5_B fu r1 (d_spec_l5Names_L5 fu r1 n)

def d_spec_l5Names (fu:Nat) (r1:Request):Option (Bool) :=
  d_spec_l5Names_L5 fu r1 fu 0

def d_spec_Beside_J1 (fu:Nat) (k3:Int → Option (Bool)) (Aa:Int)  : Option (Bool) :=
  k3 (w64 (Aa + 1))

def d_spec_Beside_L1_B (fu:Nat)  (Ab:List Pair) (a5:Int) (b6:Int) (k3:Int → Option (Bool)) (Aa:Int):Option (Bool) :=
  bif (decide (Aa < ((Ab.length:Int)))) then obind (ix Ab Aa) fun Ac=>bif (Ac.fA == a5) then obind (ix Ab Aa) fun Ad=>bif (Ac.fB == b6) then some (true) else d_spec_Beside_J1 fu k3 Aa else d_spec_Beside_J1 fu k3 Aa else some (false)
def d_spec_Beside_L1 (fu:Nat)  (Aa:List Pair) (a5:Int) (b6:Int):Nat → Int → Option (Bool)
  | 0=>fun _=>none
  | n + 1=>d_spec_Beside_L1_B fu Aa a5 b6 (d_spec_Beside_L1 fu Aa a5 b6 n)

def d_spec_Beside (fu:Nat) (Aa:List Pair) (a5:Int) (b6:Int):Option (Bool) :=
  d_spec_Beside_L1 fu Aa a5 b6 fu 0

def d_spec_TableOk_J1 (fu:Nat) (Ab:Int → Option (Bool)) (Aa:Int)  : Option (Bool) :=
  Ab (w64 (Aa + 1))

def d_spec_TableOk_L1_B (fu:Nat) (k9:Int → Option (Bool)) (Ac:List Pair) (Ae:Int) (Aa:Int) (Ad:Int → Option (Bool)) (Ab:Int):Option (Bool) :=
  bif (decide (Ab < Ae)) then bif (Aa == Ab) then obind (d_spec_Beside fu Ac Aa Aa) fun Ag=>bif (!Ag) then some (false) else obind (d_spec_Beside fu Ac Aa Ab) fun Ai=>obind (d_spec_Beside fu Ac Ab Aa) fun Aj=>bif (!(Ai == Aj)) then some (false) else d_spec_TableOk_J1 fu Ad Ab else obind (d_spec_Beside fu Ac Aa Ab) fun Ah=>obind (d_spec_Beside fu Ac Ab Aa) fun Af=>bif (!(Ah == Af)) then some (false) else d_spec_TableOk_J1 fu Ad Ab else k9 (w64 (Aa + 1))
def d_spec_TableOk_L1 (fu:Nat) (k9:Int → Option (Bool)) (Ac:List Pair) (Aa:Int) (Ab:Int):Nat → Int → Option (Bool)
  | 0=>fun _=>none
  | n + 1=>d_spec_TableOk_L1_B fu k9 Ac Aa Ab (d_spec_TableOk_L1 fu k9 Ac Aa Ab n)

def d_spec_TableOk_L2_B (fu:Nat)  (Ac:List Pair) (Aa:Int) (k9:Int → Option (Bool)) (Ab:Int):Option (Bool) :=
  bif (decide (Ab < Aa)) then d_spec_TableOk_L1 fu k9 Ac Aa Ab fu 0 else some (true)
def d_spec_TableOk_L2 (fu:Nat)  (Ab:List Pair) (Aa:Int):Nat → Int → Option (Bool)
  | 0=>fun _=>none
  | n + 1=>d_spec_TableOk_L2_B fu Ab Aa (d_spec_TableOk_L2 fu Ab Aa n)

def d_spec_TableOk (fu:Nat) (Ab:List Pair) (Aa:Int):Option (Bool) :=
  obind (d_spec_l1In fu Aa 1 4) fun x6=>bif (!x6) then some (false) else d_spec_TableOk_L2 fu Ab Aa fu 0

def d_spec_l1Places_L1_B (fu:Nat)  (n1:Int) (k1:List Int → Int → Option ((List Int))) (Ab:List Int) (Aa:Int):Option ((List Int)) :=
  bif (decide (Aa < n1)) then obind (apnd 8 Ab (([Aa]:List Int))) fun Ac=>k1 Ac (w64 (Aa + 1)) else some (Ab)
def d_spec_l1Places_L1 (fu:Nat)  (n1:Int):Nat → List Int → Int → Option ((List Int))
  | 0=>fun _ _=>none
  | n + 1=>d_spec_l1Places_L1_B fu n1 (d_spec_l1Places_L1 fu n1 n)

def d_spec_l1Places (fu:Nat) (n1:Int):Option ((List Int)) :=
  d_spec_l1Places_L1 fu n1 fu (([]:List Int)) 0

def d_spec_l1Merge_J1 (fu:Nat) (k3:List Int → Int → Int → Option ((List Int))) (Ah:List Int) (Aj:Bool) (Ad:(List Int)) (Ae:(List Int)) (Ac:List Int) (Aa:Int) (Ab:Int)  : Option ((List Int)) :=
  bif (Ab == ((Ae.length:Int))) then obind (ix Ad Aa) fun Au=>obind (apnd 8 Ac (([Au]:List Int))) fun At=>k3 At (w64 (Aa + 1)) Ab else bif (Aa == ((Ad.length:Int))) then obind (ix Ae Ab) fun Ap=>obind (apnd 8 Ac (([Ap]:List Int))) fun Al=>k3 Al Aa (w64 (Ab + 1)) else obind (ix Ae Ab) fun Ag=>obind (ix Ah Ag) fun Ak=>obind (ix Ad Aa) fun Af=>obind (ix Ah Af) fun Ai=>bif (decide (Ak < Ai)) then bif (!Aj) then obind (ix Ae Ab) fun Bb=>obind (apnd 8 Ac (([Ag]:List Int))) fun As=>k3 As Aa (w64 (Ab + 1)) else obind (ix Ae Ab) fun Bj=>obind (ix Ah Ag) fun Bl=>obind (ix Ad Aa) fun Bg=>obind (ix Ah Af) fun Bc=>bif (decide (Ak > Ai)) then bif Aj then obind (ix Ae Ab) fun Ba=>obind (apnd 8 Ac (([Ag]:List Int))) fun Am=>k3 Am Aa (w64 (Ab + 1)) else obind (ix Ad Aa) fun Ax=>obind (apnd 8 Ac (([Af]:List Int))) fun Aw=>k3 Aw (w64 (Aa + 1)) Ab else obind (ix Ad Aa) fun Ay=>obind (apnd 8 Ac (([Af]:List Int))) fun Ao=>k3 Ao (w64 (Aa + 1)) Ab else obind (ix Ae Ab) fun Bk=>obind (ix Ah Ag) fun Bd=>obind (ix Ad Aa) fun Az=>obind (ix Ah Af) fun Bi=>bif (decide (Ak > Ai)) then bif Aj then obind (ix Ae Ab) fun Bh=>obind (apnd 8 Ac (([Ag]:List Int))) fun Ar=>k3 Ar Aa (w64 (Ab + 1)) else obind (ix Ad Aa) fun Be=>obind (apnd 8 Ac (([Af]:List Int))) fun Av=>k3 Av (w64 (Aa + 1)) Ab else obind (ix Ad Aa) fun Bf=>obind (apnd 8 Ac (([Af]:List Int))) fun Aq=>k3 Aq (w64 (Aa + 1)) Ab

def d_spec_l1Merge_L1_B (fu:Nat)  (Af:List Int) (Ag:Bool) (Ab:(List Int)) (Ae:(List Int)) (k3:List Int → Int → Int → Option ((List Int))) (Aa:List Int) (Ad:Int) (Ac:Int):Option ((List Int)) :=
  bif (decide (Ad < ((Ab.length:Int)))) then d_spec_l1Merge_J1 fu k3 Af Ag Ab Ae Aa Ad Ac else bif (decide (Ac < ((Ae.length:Int)))) then d_spec_l1Merge_J1 fu k3 Af Ag Ab Ae Aa Ad Ac else some (Aa)
def d_spec_l1Merge_L1 (fu:Nat)  (Aa:List Int) (Ab:Bool) (Ac:(List Int)) (Ad:(List Int)):Nat → List Int → Int → Int → Option ((List Int))
  | 0=>fun _ _ _=>none
  | n + 1=>d_spec_l1Merge_L1_B fu Aa Ab Ac Ad (d_spec_l1Merge_L1 fu Aa Ab Ac Ad n)

def d_spec_l1Merge_RB (fu:Nat) (self:List Int → List Int → Bool → Option ((List Int))) (Ab:List Int) (Aa:List Int) (Ac:Bool):Option ((List Int)) :=
  bif (decide (((Aa.length:Int)) < 2)) then obind (apnd 8 (([]:List Int)) Aa) fun Af=>some (Af) else obind (sls Aa 0 (w64 (Int.tdiv ((Aa.length:Int)) 2))) fun Ag=>obind (self Ab Ag Ac) fun Ad=>obind (sls Aa (w64 (Int.tdiv ((Aa.length:Int)) 2)) (Aa.length:Int)) fun Ae=>obind (self Ab Ae Ac) fun Ah=>d_spec_l1Merge_L1 fu Ab Ac Ad Ah fu (([]:List Int)) 0 0
def d_spec_l1Merge_R (fu:Nat):Nat → List Int → List Int → Bool → Option ((List Int))
  | 0=>fun _ _ _=>none
  | n + 1=>d_spec_l1Merge_RB fu (d_spec_l1Merge_R fu n)
def d_spec_l1Merge (fu:Nat) (Aa:List Int) (Ac:List Int) (Ab:Bool):Option ((List Int)):=d_spec_l1Merge_R fu fu Aa Ac Ab

def d_spec_SortUp (fu:Nat) (Aa:List Int):Option ((List Int)) :=
  obind (d_spec_l1Places fu ((Aa.length:Int))) fun x5=>obind (d_spec_l1Merge fu Aa x5 false) fun Ab=>some (Ab)

def d_spec_l5Sides (fu:Nat) (Aa:Int) (h2:Int) (d3:Int):Option ((List Int)) :=
  obind (d_spec_SortUp fu (([Aa,h2,d3]:List Int))) fun x9=>obind (ix x9 0) fun Ae=>obind (ix (([Aa,h2,d3]:List Int)) Ae) fun Ab=>obind (ix x9 1) fun Ac=>obind (ix (([Aa,h2,d3]:List Int)) Ac) fun Ad=>obind (ix x9 2) fun Af=>obind (ix (([Aa,h2,d3]:List Int)) Af) fun Ag=>some (([Ab,Ad,Ag]:List Int))

def d_spec_Fits (fu:Nat) (x1:Item) (t2:Typ):Option (Bool) :=
  obind (d_spec_l5Sides fu x1.fW x1.fH x1.fD) fun Aa=>obind (d_spec_l5Sides fu t2.fW t2.fH t2.fD) fun Ab=>obind (ix Aa 0) fun Af=>obind (ix Ab 0) fun Ae=>bif (decide (Af ≤ Ae)) then obind (ix Aa 1) fun Ac=>obind (ix Ab 1) fun Ah=>bif (decide (Ac ≤ Ah)) then obind (ix Aa 2) fun Ad=>obind (ix Ab 2) fun Ag=>bif (decide (Ad ≤ Ag)) then some (decide (x1.fGram ≤ t2.fGram)) else some (false) else some (false) else some (false)

def d_spec_Class_J1 (fu:Nat) (k4:Int → Option (Int)) (Aa:Int)  : Option (Int) :=
  k4 (w64 (Aa + 1))

def d_spec_Class_L1_B (fu:Nat)  (r1:Request) (k4:Int → Option (Int)) (Ab:Int):Option (Int) :=
  bif (decide (Ab < ((r1.fTypes.length:Int)))) then obind (ix r1.fTypes Ab) fun Aa=>bif (decide (Aa.fW > r1.fPallet.fW)) then some (6) else bif (decide (Aa.fD > r1.fPallet.fD)) then some (6) else bif (decide (Aa.fH > r1.fPallet.fH)) then some (6) else bif (decide ((w64 (Aa.fTare + Aa.fGram)) > r1.fPallet.fGram)) then some (6) else d_spec_Class_J1 fu k4 Ab else some (0)
def d_spec_Class_L1 (fu:Nat)  (r1:Request):Nat → Int → Option (Int)
  | 0=>fun _=>none
  | n + 1=>d_spec_Class_L1_B fu r1 (d_spec_Class_L1 fu r1 n)

def d_spec_Class_L2_B (fu:Nat)  (r1:Request) (Ac:Typ × Bool) (k1:Int → Option (Int)) (Aa:Int):Option (Int) :=
  bif (decide (Aa < ((r1.fItems.length:Int)))) then obind (ix r1.fItems Aa) fun Ab=>obind (d_spec_Fits fu Ab Ac.1) fun Ad=>bif (!Ad) then some (5) else k1 (w64 (Aa + 1)) else d_spec_Class_L1 fu r1 fu 0
def d_spec_Class_L2 (fu:Nat)  (r1:Request) (Aa:Typ × Bool):Nat → Int → Option (Int)
  | 0=>fun _=>none
  | n + 1=>d_spec_Class_L2_B fu r1 Aa (d_spec_Class_L2 fu r1 Aa n)

def d_spec_Class (fu:Nat) (r1:Request):Option (Int) :=
  obind (d_spec_BoundsOk fu r1) fun Ac=>bif (!Ac) then some (2) else obind (d_spec_l5Names fu r1) fun Ab=>bif (!Ab) then some (3) else obind (d_spec_TableOk fu r1.fPairs r1.fClasses) fun Ad=>bif (!Ad) then some (4) else obind (d_spec_MasterOf fu r1) fun Aa=>d_spec_Class_L2 fu r1 Aa fu 0

def d_spec_ClassOf (fu:Nat) (Aa:ByteArray):Option (Int) :=
  obind (d_spec_ReadOrder fu Aa) fun x2=>bif (decide (x2.2 ≥ 0)) then some (1) else obind (d_spec_Class fu x2.1) fun Ab=>some (Ab)

def d_spec_l13Carton_J1 (fu:Nat) (k4:Int → Option (Bool)) (Aa:Int)  : Option (Bool) :=
  k4 (w64 (Aa + 1))

def d_spec_l13Carton_L1_B (fu:Nat)  (x1:Carton) (k4:Int → Option (Bool)) (Aa:Int):Option (Bool) :=
  bif (decide (Aa < ((x1.fUnits.length:Int)))) then obind (ix x1.fUnits Aa) fun Ab=>obind (d_spec_l1In fu Ab 0 999) fun Ac=>bif (!Ac) then some (false) else bif (decide (Aa > 0)) then obind (ix x1.fUnits Aa) fun Ae=>obind (ix x1.fUnits (w64 (Aa - 1))) fun Ad=>bif (decide (Ab ≤ Ad)) then some (false) else d_spec_l13Carton_J1 fu k4 Aa else d_spec_l13Carton_J1 fu k4 Aa else some (true)
def d_spec_l13Carton_L1 (fu:Nat)  (x1:Carton):Nat → Int → Option (Bool)
  | 0=>fun _=>none
  | n + 1=>d_spec_l13Carton_L1_B fu x1 (d_spec_l13Carton_L1 fu x1 n)

def d_spec_l13Carton_J2 (fu:Nat) (x1:Carton)  : Option (Bool) :=
  d_spec_l13Carton_L1 fu x1 fu 0

def d_spec_l13Carton (fu:Nat) (x1:Carton):Option (Bool) :=
  obind (d_spec_l2Id fu x1.fType) fun Aa=>bif (!Aa) then some (false) else obind (d_spec_l1In fu x1.fGroup 0 3) fun Ab=>bif (!Ab) then some (false) else bif (decide (((x1.fUnits.length:Int)) > 100)) then some (false) else d_spec_l13Carton_J2 fu x1

def d_spec_PlanOk_J1 (fu:Nat) (k4:Int → Option (Bool)) (Aa:Int)  : Option (Bool) :=
  k4 (w64 (Aa + 1))

def d_spec_PlanOk_L1_B (fu:Nat)  (x1:Plan) (k4:Int → Option (Bool)) (Ab:Int):Option (Bool) :=
  bif (decide (Ab < ((x1.fCartons.length:Int)))) then obind (ix x1.fSpots Ab) fun Aa=>obind (ix x1.fCartons Ab) fun Af=>obind (d_spec_l13Carton fu Af) fun Ag=>bif (!Ag) then some (false) else obind (d_spec_l1In fu Aa.fPallet 0 2000) fun Ad=>bif (!Ad) then some (false) else obind (d_spec_l1In fu Aa.fX 0 2000) fun Ah=>bif (!Ah) then some (false) else obind (d_spec_l1In fu Aa.fY 0 2000) fun Ac=>bif (!Ac) then some (false) else obind (d_spec_l1In fu Aa.fZ 0 2000) fun Ae=>bif (!Ae) then some (false) else d_spec_PlanOk_J1 fu k4 Ab else some (true)
def d_spec_PlanOk_L1 (fu:Nat)  (x1:Plan):Nat → Int → Option (Bool)
  | 0=>fun _=>none
  | n + 1=>d_spec_PlanOk_L1_B fu x1 (d_spec_PlanOk_L1 fu x1 n)

def d_spec_PlanOk_J2 (fu:Nat) (x1:Plan)  : Option (Bool) :=
  d_spec_PlanOk_L1 fu x1 fu 0

def d_spec_PlanOk (fu:Nat) (x1:Plan):Option (Bool) :=
  bif (((x1.fCartons.length:Int)) != ((x1.fSpots.length:Int))) then some (false) else bif (decide (((x1.fCartons.length:Int)) > 100)) then some (false) else d_spec_PlanOk_J2 fu x1

def d_spec_l14Line_L1_B (fu:Nat)  (Ac:List Int) (k1:ByteArray → Int → Option (ByteArray)) (Ab:ByteArray) (Aa:Int):Option (ByteArray) :=
  bif (decide (Aa < ((Ac.length:Int)))) then obind (scat Ab ((⟨#[32]⟩:ByteArray))) fun Ae=>obind (ix Ac Aa) fun Af=>obind (d_spec_Digits fu Af) fun Ad=>obind (scat Ae Ad) fun Ag=>k1 Ag (w64 (Aa + 1)) else some (Ab)
def d_spec_l14Line_L1 (fu:Nat)  (Aa:List Int):Nat → ByteArray → Int → Option (ByteArray)
  | 0=>fun _ _=>none
  | n + 1=>d_spec_l14Line_L1_B fu Aa (d_spec_l14Line_L1 fu Aa n)

def d_spec_l14Line (fu:Nat) (x1:Carton) (Aa:Spot):Option (ByteArray) :=
  obind (apnd 8 (([x1.fType,x1.fGroup,Aa.fPallet,Aa.fX,Aa.fY,Aa.fZ]:List Int)) x1.fUnits) fun Ab=>d_spec_l14Line_L1 fu Ab fu ((⟨#[99,97,114,116,111,110]⟩:ByteArray)) 0

def d_spec_LineOf_J1 (fu:Nat) (Ae:Int) (Ag:Int) (Af:List Int) (Ad:Int) (Ac:Int) (Aa:Int) (Ab:Int)  : Option (Carton × Spot × Bool) :=
  some ((⟨Ae,Ag,Af⟩:Carton),(⟨Ad,Ac,Aa,Ab⟩:Spot),true)

def d_spec_LineOf_J2 (fu:Nat) (Ak:ByteArray) (Aa:List Int) (Ag:Int) (Ah:Int) (Af:List Int):Option (Carton × Spot × Bool) :=
  obind (ix Aa 2) fun Ae=>obind (ix Aa 3) fun Ad=>obind (ix Aa 4) fun Ab=>obind (ix Aa 5) fun Ac=>obind (d_spec_PlanOk fu ((⟨([(⟨Ag,Ah,Af⟩:Carton)]:List Carton),([(⟨Ae,Ad,Ab,Ac⟩:Spot)]:List Spot)⟩:Plan))) fun Aj=>bif (!Aj) then some ((⟨0,0,[]⟩:Carton),(⟨0,0,0,0⟩:Spot),false) else obind (d_spec_l14Line fu ((⟨Ag,Ah,Af⟩:Carton)) ((⟨Ae,Ad,Ab,Ac⟩:Spot))) fun Ai=>bif (!(Ai.toList == Ak.toList)) then some ((⟨0,0,[]⟩:Carton),(⟨0,0,0,0⟩:Spot),false) else d_spec_LineOf_J1 fu Ag Ah Af Ae Ad Ab Ac

def d_spec_LineOf_L1_B (fu:Nat)  (Ag:ByteArray) (x8:(List ByteArray)) (k1:List Int → Int → Option (Carton × Spot × Bool)) (Aa:List Int) (Ab:Int):Option (Carton × Spot × Bool) :=
  bif (decide (Ab < ((x8.length:Int)))) then obind (ix x8 Ab) fun Af=>obind (d_spec_Number fu Af) fun Ac=>bif (!Ac.2) then some ((⟨0,0,[]⟩:Carton),(⟨0,0,0,0⟩:Spot),false) else obind (apnd 8 Aa (([Ac.1]:List Int))) fun Ah=>k1 Ah (w64 (Ab + 1)) else bif (decide (((Aa.length:Int)) < 6)) then some ((⟨0,0,[]⟩:Carton),(⟨0,0,0,0⟩:Spot),false) else obind (ix Aa 0) fun Ai=>obind (ix Aa 1) fun Ad=>obind (sls Aa 6 (Aa.length:Int)) fun Ae=>obind (apnd 8 (([]:List Int)) Ae) fun Aj=>d_spec_LineOf_J2 fu Ag Aa Ai Ad Aj
def d_spec_LineOf_L1 (fu:Nat)  (Aa:ByteArray) (x8:(List ByteArray)):Nat → List Int → Int → Option (Carton × Spot × Bool)
  | 0=>fun _ _=>none
  | n + 1=>d_spec_LineOf_L1_B fu Aa x8 (d_spec_LineOf_L1 fu Aa x8 n)

def d_spec_LineOf (fu:Nat) (Aa:ByteArray):Option (Carton × Spot × Bool) :=
  obind (d_spec_Parts fu Aa 32) fun x8=>d_spec_LineOf_L1 fu Aa x8 fu (([]:List Int)) 1

def d_spec_ReadPlan_L1_B (fu:Nat)  (x5:(List ByteArray)) (k1:List Carton → List Spot → Int → Option (Plan × Bool)) (Aa:List Carton) (Ab:List Spot) (Ac:Int):Option (Plan × Bool) :=
  bif (decide (Ac < (w64 (((x5.length:Int)) - 1)))) then obind (ix x5 Ac) fun Ae=>obind (d_spec_LineOf fu Ae) fun Ad=>bif (!Ad.2.2) then some ((⟨[],[]⟩:Plan),false) else obind (apnd 40 Aa [Ad.1]) fun Ah=>obind (apnd 32 Ab (([Ad.2.1]:List Spot))) fun Af=>k1 Ah Af (w64 (Ac + 1)) else obind (ix x5 (w64 (((x5.length:Int)) - 1))) fun Ai=>bif (!(Ai.toList == ((⟨#[]⟩:ByteArray)).toList)) then some ((⟨[],[]⟩:Plan),false) else obind (d_spec_PlanOk fu ((⟨Aa,Ab⟩:Plan))) fun Ag=>bif (!Ag) then some ((⟨[],[]⟩:Plan),false) else some ((⟨Aa,Ab⟩:Plan),true)
def d_spec_ReadPlan_L1 (fu:Nat)  (x5:(List ByteArray)):Nat → List Carton → List Spot → Int → Option (Plan × Bool)
  | 0=>fun _ _ _=>none
  | n + 1=>d_spec_ReadPlan_L1_B fu x5 (d_spec_ReadPlan_L1 fu x5 n)

def d_spec_ReadPlan (fu:Nat) (Aa:ByteArray):Option (Plan × Bool) :=
  obind (d_spec_Parts fu Aa 10) fun x5=>d_spec_ReadPlan_L1 fu x5 fu (([]:List Carton)) (([]:List Spot)) 0

def d_spec_l15Empty_L1_B (fu:Nat)  (x1:Plan) (k1:Int → Option (Bool)) (Aa:Int):Option (Bool) :=
  bif (decide (Aa < ((x1.fCartons.length:Int)))) then obind (ix x1.fCartons Aa) fun Ab=>bif (((Ab.fUnits.length:Int)) == 0) then some (true) else k1 (w64 (Aa + 1)) else some (false)
def d_spec_l15Empty_L1 (fu:Nat)  (x1:Plan):Nat → Int → Option (Bool)
  | 0=>fun _=>none
  | n + 1=>d_spec_l15Empty_L1_B fu x1 (d_spec_l15Empty_L1 fu x1 n)

def d_spec_l15Empty (fu:Nat) (x1:Plan):Option (Bool) :=
  d_spec_l15Empty_L1 fu x1 fu 0

def d_spec_l6Units_L1_B (fu:Nat) (k3:List Int → Int → Option ((List Int))) (r1:Request) (Aa:Int) (k4:List Int → Int → Option ((List Int))) (Ac:List Int) (Ab:Int):Option ((List Int)) :=
  obind (ix r1.fItems Aa) fun Ae=>bif (decide (Ab < Ae.fCount)) then obind (apnd 8 Ac (([Aa]:List Int))) fun Ad=>k4 Ad (w64 (Ab + 1)) else k3 Ac (w64 (Aa + 1))
def d_spec_l6Units_L1 (fu:Nat) (k3:List Int → Int → Option ((List Int))) (r1:Request) (Aa:Int):Nat → List Int → Int → Option ((List Int))
  | 0=>fun _ _=>none
  | n + 1=>d_spec_l6Units_L1_B fu k3 r1 Aa (d_spec_l6Units_L1 fu k3 r1 Aa n)

def d_spec_l6Units_L2_B (fu:Nat)  (r1:Request) (k3:List Int → Int → Option ((List Int))) (Ab:List Int) (Aa:Int):Option ((List Int)) :=
  bif (decide (Aa < ((r1.fItems.length:Int)))) then d_spec_l6Units_L1 fu k3 r1 Aa fu Ab 0 else some (Ab)
def d_spec_l6Units_L2 (fu:Nat)  (r1:Request):Nat → List Int → Int → Option ((List Int))
  | 0=>fun _ _=>none
  | n + 1=>d_spec_l6Units_L2_B fu r1 (d_spec_l6Units_L2 fu r1 n)

def d_spec_l6Units (fu:Nat) (r1:Request):Option ((List Int)) :=
  d_spec_l6Units_L2 fu r1 fu (([]:List Int)) 0

def d_spec_l15Flat_L1_B (fu:Nat)  (x1:Plan) (k1:List Int → Int → Option ((List Int))) (Ab:List Int) (Aa:Int):Option ((List Int)) :=
  bif (decide (Aa < ((x1.fCartons.length:Int)))) then obind (ix x1.fCartons Aa) fun Ac=>obind (apnd 8 Ab Ac.fUnits) fun Ad=>k1 Ad (w64 (Aa + 1)) else some (Ab)
def d_spec_l15Flat_L1 (fu:Nat)  (x1:Plan):Nat → List Int → Int → Option ((List Int))
  | 0=>fun _ _=>none
  | n + 1=>d_spec_l15Flat_L1_B fu x1 (d_spec_l15Flat_L1 fu x1 n)

def d_spec_l15Flat (fu:Nat) (x1:Plan):Option ((List Int)) :=
  d_spec_l15Flat_L1 fu x1 fu (([]:List Int)) 0

def d_spec_l1Bit (fu:Nat) (Aa:Bool):Option (Int) :=
  bif Aa then some (1) else some (0)

def d_spec_l8Times_L1_B (fu:Nat)  (Ab:List Int) (x5:Int) (k1:Int → Int → Option (Int)) (Ac:Int) (Aa:Int):Option (Int) :=
  bif (decide (Aa < ((Ab.length:Int)))) then obind (ix Ab Aa) fun Ae=>obind (d_spec_l1Bit fu (Ae == x5)) fun Ad=>k1 (w64 (Ac + Ad)) (w64 (Aa + 1)) else some (Ac)
def d_spec_l8Times_L1 (fu:Nat)  (Aa:List Int) (x5:Int):Nat → Int → Int → Option (Int)
  | 0=>fun _ _=>none
  | n + 1=>d_spec_l8Times_L1_B fu Aa x5 (d_spec_l8Times_L1 fu Aa x5 n)

def d_spec_l8Times (fu:Nat) (Aa:List Int) (x5:Int):Option (Int) :=
  d_spec_l8Times_L1 fu Aa x5 fu 0 0

def d_spec_l15Units_L1_B (fu:Nat)  (Ad:List Int) (Ab:(List Int)) (k1:Int → Option (Bool)) (Aa:Int):Option (Bool) :=
  bif (decide (Aa < ((Ad.length:Int)))) then obind (d_spec_l8Times fu Ab Aa) fun Ac=>bif (Ac != 1) then some (false) else k1 (w64 (Aa + 1)) else some (true)
def d_spec_l15Units_L1 (fu:Nat)  (Ab:List Int) (Aa:(List Int)):Nat → Int → Option (Bool)
  | 0=>fun _=>none
  | n + 1=>d_spec_l15Units_L1_B fu Ab Aa (d_spec_l15Units_L1 fu Ab Aa n)

def d_spec_l15Units (fu:Nat) (Ab:List Int) (x5:Plan):Option (Bool) :=
  obind (d_spec_l15Flat fu x5) fun Aa=>bif (((Aa.length:Int)) != ((Ab.length:Int))) then some (false) else d_spec_l15Units_L1 fu Ab Aa fu 0

def d_spec_TypeById_L1_B (fu:Nat)  (r1:Request) (Ac:Int) (k1:Int → Option (Typ × Bool)) (Aa:Int):Option (Typ × Bool) :=
  bif (decide (Aa < ((r1.fTypes.length:Int)))) then obind (ix r1.fTypes Aa) fun Ab=>bif (Ab.fId == Ac) then obind (ix r1.fTypes Aa) fun Ad=>some (Ab,true) else k1 (w64 (Aa + 1)) else some ((⟨0,0,0,0,0,0,0⟩:Typ),false)
def d_spec_TypeById_L1 (fu:Nat)  (r1:Request) (Aa:Int):Nat → Int → Option (Typ × Bool)
  | 0=>fun _=>none
  | n + 1=>d_spec_TypeById_L1_B fu r1 Aa (d_spec_TypeById_L1 fu r1 Aa n)

def d_spec_TypeById (fu:Nat) (r1:Request) (Aa:Int):Option (Typ × Bool) :=
  d_spec_TypeById_L1 fu r1 Aa fu 0

def d_spec_l6Item (fu:Nat) (r1:Request) (Aa:List Int) (u9:Int):Option (Item × Bool) :=
  obind (d_spec_l1In fu u9 0 (w64 (((Aa.length:Int)) - 1))) fun Ac=>bif (!Ac) then some ((⟨0,0,0,0,0,0,0⟩:Item),false) else obind (ix Aa u9) fun Ad=>obind (ix r1.fItems Ad) fun Ab=>some (Ab,true)

def d_spec_Volume_J1 (fu:Nat) (Aa:Int) (h2:Int) (d3:Int)  : Option (Int) :=
  some (w64 ((w64 (Aa * h2)) * d3))

def d_spec_Volume (fu:Nat) (Aa:Int) (h2:Int) (d3:Int):Option (Int) :=
  obind (d_spec_l1In fu Aa 0 2000) fun Ab=>bif (!Ab) then some (0) else obind (d_spec_l1In fu h2 0 2000) fun Ac=>bif (!Ac) then some (0) else obind (d_spec_l1In fu d3 0 2000) fun Ad=>bif (!Ad) then some (0) else d_spec_Volume_J1 fu Aa h2 d3

def d_spec_l7Of_J1 (fu:Nat) (k7:L7 → Int → Option (L7)) (Aa:Int) (Ab:L7):Option (L7) :=
  k7 Ab (w64 (Aa + 1))

def d_spec_l7Of_J2 (fu:Nat) (k7:L7 → Int → Option (L7)) (Ab:L7) (Ad:Int) (Aa:Item):Option (L7) :=
  obind (d_spec_Volume fu Aa.fW Aa.fH Aa.fD) fun Ac=>d_spec_l7Of_J1 fu k7 Ad ((⟨w64 (Ab.fvol + Ac),w64 (Ab.fgram + Aa.fGram)⟩:L7))

def d_spec_l7Of_L1_B (fu:Nat)  (r1:Request) (Ae:List Int) (Ac:List Int) (k7:L7 → Int → Option (L7)) (Ab:L7) (Aa:Int):Option (L7) :=
  bif (decide (Aa < ((Ac.length:Int)))) then obind (ix Ac Aa) fun Ad=>obind (d_spec_l6Item fu r1 Ae Ad) fun Af=>d_spec_l7Of_J2 fu k7 Ab Aa Af.1 else some (Ab)
def d_spec_l7Of_L1 (fu:Nat)  (r1:Request) (Ab:List Int) (Aa:List Int):Nat → L7 → Int → Option (L7)
  | 0=>fun _ _=>none
  | n + 1=>d_spec_l7Of_L1_B fu r1 Ab Aa (d_spec_l7Of_L1 fu r1 Ab Aa n)

def d_spec_l7Of (fu:Nat) (r1:Request) (Ab:List Int) (Aa:List Int):Option (L7) :=
  d_spec_l7Of_L1 fu r1 Ab Aa fu ((⟨0,0⟩:L7)) 0

def d_spec_Holds_J1 (fu:Nat) (r1:Request) (Ab:List Int) (t9:Typ) (Ac:(List Int))  : Option (Bool) :=
  obind (d_spec_l7Of fu r1 Ac Ab) fun Aa=>obind (d_spec_Volume fu t9.fW t9.fH t9.fD) fun Ad=>bif (decide (Aa.fvol ≤ Ad)) then some (decide (Aa.fgram ≤ t9.fGram)) else some (false)

def d_spec_Holds_J2 (fu:Nat) (Ab:Int → Option (Bool)) (Aa:Int)  : Option (Bool) :=
  Ab (w64 (Aa + 1))

def d_spec_Holds_J3 (fu:Nat) (Ab:Int → Option (Bool)) (t9:Typ) (Ae:Int) (Aa:Item) (Ac:Bool):Option (Bool) :=
  bif (!Ac) then some (false) else obind (d_spec_Fits fu Aa t9) fun Ad=>bif (!Ad) then some (false) else d_spec_Holds_J2 fu Ab Ae

def d_spec_Holds_L1_B (fu:Nat)  (r1:Request) (Aa:List Int) (t9:Typ) (Ad:(List Int)) (Ae:Int → Option (Bool)) (Ab:Int):Option (Bool) :=
  bif (decide (Ab < ((Aa.length:Int)))) then obind (ix Aa Ab) fun Af=>obind (d_spec_l6Item fu r1 Ad Af) fun Ac=>d_spec_Holds_J3 fu Ae t9 Ab Ac.1 Ac.2 else d_spec_Holds_J1 fu r1 Aa t9 Ad
def d_spec_Holds_L1 (fu:Nat)  (r1:Request) (Aa:List Int) (t9:Typ) (Ab:(List Int)):Nat → Int → Option (Bool)
  | 0=>fun _=>none
  | n + 1=>d_spec_Holds_L1_B fu r1 Aa t9 Ab (d_spec_Holds_L1 fu r1 Aa t9 Ab n)

def d_spec_Holds (fu:Nat) (r1:Request) (Aa:List Int) (t9:Typ):Option (Bool) :=
  obind (d_spec_Class fu r1) fun Ab=>bif (Ab != 0) then some (false) else obind (d_spec_l6Units fu r1) fun Ac=>d_spec_Holds_L1 fu r1 Aa t9 Ac fu 0

def d_spec_l15Holds_J1 (fu:Nat) (k7:Int → Option (Bool)) (Aa:Int)  : Option (Bool) :=
  k7 (w64 (Aa + 1))

def d_spec_l15Holds_J2 (fu:Nat) (k7:Int → Option (Bool)) (r1:Request) (x5:Plan) (Aa:Int) (Ae:Typ) (Ab:Bool):Option (Bool) :=
  bif (!Ab) then some (false) else obind (ix x5.fCartons Aa) fun Ac=>obind (d_spec_Holds fu r1 Ac.fUnits Ae) fun Ad=>bif (!Ad) then some (false) else d_spec_l15Holds_J1 fu k7 Aa

def d_spec_l15Holds_L1_B (fu:Nat)  (r1:Request) (x5:Plan) (k7:Int → Option (Bool)) (Aa:Int):Option (Bool) :=
  bif (decide (Aa < ((x5.fCartons.length:Int)))) then obind (ix x5.fCartons Aa) fun Ac=>obind (d_spec_TypeById fu r1 Ac.fType) fun Ab=>d_spec_l15Holds_J2 fu k7 r1 x5 Aa Ab.1 Ab.2 else some (true)
def d_spec_l15Holds_L1 (fu:Nat)  (r1:Request) (x5:Plan):Nat → Int → Option (Bool)
  | 0=>fun _=>none
  | n + 1=>d_spec_l15Holds_L1_B fu r1 x5 (d_spec_l15Holds_L1 fu r1 x5 n)

def d_spec_l15Holds (fu:Nat) (r1:Request) (x5:Plan):Option (Bool) :=
  d_spec_l15Holds_L1 fu r1 x5 fu 0

def d_spec_Present_J1 (fu:Nat) (Aa:List Int → Int → Option ((List Int))) (Ab:Int) (Ac:List Int):Option ((List Int)) :=
  Aa Ac (w64 (Ab + 1))

def d_spec_Present_J2 (fu:Nat) (Ac:Bool → Int → Option ((List Int))) (Aa:Int) (Ab:Bool):Option ((List Int)) :=
  Ac Ab (w64 (Aa + 1))

def d_spec_Present_L1_B (fu:Nat) (Ae:List Int → Int → Option ((List Int))) (r1:Request) (Ac:List Int) (Ab:Int) (Ad:Bool → Int → Option ((List Int))) (Af:Bool) (Aa:Int):Option ((List Int)) :=
  bif (decide (Aa < ((r1.fItems.length:Int)))) then bif Af then d_spec_Present_J2 fu Ad Aa true else obind (ix r1.fItems Aa) fun Ah=>d_spec_Present_J2 fu Ad Aa (Ah.fClass == Ab) else bif Af then obind (apnd 8 Ac (([Ab]:List Int))) fun Ag=>d_spec_Present_J1 fu Ae Ab Ag else d_spec_Present_J1 fu Ae Ab Ac
def d_spec_Present_L1 (fu:Nat) (Aa:List Int → Int → Option ((List Int))) (r1:Request) (Ac:List Int) (Ab:Int):Nat → Bool → Int → Option ((List Int))
  | 0=>fun _ _=>none
  | n + 1=>d_spec_Present_L1_B fu Aa r1 Ac Ab (d_spec_Present_L1 fu Aa r1 Ac Ab n)

def d_spec_Present_L2_B (fu:Nat)  (r1:Request) (Ac:List Int → Int → Option ((List Int))) (Ab:List Int) (Aa:Int):Option ((List Int)) :=
  bif (decide (Aa < 4)) then d_spec_Present_L1 fu Ac r1 Ab Aa fu false 0 else some (Ab)
def d_spec_Present_L2 (fu:Nat)  (r1:Request):Nat → List Int → Int → Option ((List Int))
  | 0=>fun _ _=>none
  | n + 1=>d_spec_Present_L2_B fu r1 (d_spec_Present_L2 fu r1 n)

def d_spec_Present (fu:Nat) (r1:Request):Option ((List Int)) :=
  obind (d_spec_Class fu r1) fun Aa=>bif (Aa != 0) then some (([]:List Int)) else d_spec_Present_L2 fu r1 fu (([]:List Int)) 0

def d_spec_l1Has_L1_B (fu:Nat)  (Ab:List Int) (x5:Int) (k1:Int → Option (Bool)) (Aa:Int):Option (Bool) :=
  bif (decide (Aa < ((Ab.length:Int)))) then obind (ix Ab Aa) fun Ac=>bif (Ac == x5) then some (true) else k1 (w64 (Aa + 1)) else some (false)
def d_spec_l1Has_L1 (fu:Nat)  (Aa:List Int) (x5:Int):Nat → Int → Option (Bool)
  | 0=>fun _=>none
  | n + 1=>d_spec_l1Has_L1_B fu Aa x5 (d_spec_l1Has_L1 fu Aa x5 n)

def d_spec_l1Has (fu:Nat) (Aa:List Int) (x5:Int):Option (Bool) :=
  d_spec_l1Has_L1 fu Aa x5 fu 0

def d_spec_l3Joins_J1 (fu:Nat) (k3:Int → Option (Bool)) (Aa:Int)  : Option (Bool) :=
  k3 (w64 (Aa + 1))

def d_spec_l3Joins_L1_B (fu:Nat)  (Ad:List Pair) (Ab:List Int) (Ae:Int) (k3:Int → Option (Bool)) (Aa:Int):Option (Bool) :=
  bif (decide (Aa < ((Ab.length:Int)))) then obind (ix Ab Aa) fun Ac=>obind (d_spec_Beside fu Ad Ac Ae) fun Af=>bif (!Af) then some (false) else obind (ix Ab Aa) fun Ah=>obind (d_spec_Beside fu Ad Ae Ac) fun Ag=>bif (!Ag) then some (false) else d_spec_l3Joins_J1 fu k3 Aa else some (true)
def d_spec_l3Joins_L1 (fu:Nat)  (Ac:List Pair) (Aa:List Int) (Ab:Int):Nat → Int → Option (Bool)
  | 0=>fun _=>none
  | n + 1=>d_spec_l3Joins_L1_B fu Ac Aa Ab (d_spec_l3Joins_L1 fu Ac Aa Ab n)

def d_spec_l3Joins (fu:Nat) (Ac:List Pair) (Aa:List Int) (Ab:Int):Option (Bool) :=
  d_spec_l3Joins_L1 fu Ac Aa Ab fu 0

def d_spec_Groups_J1 (fu:Nat) (Aa:List (List Int) → Int → Option ((List (List Int)))) (Ac:Int) (Ab:List (List Int)):Option ((List (List Int))) :=
  Aa Ab (w64 (Ac + 1))

def d_spec_Groups_J2 (fu:Nat) (Ab:Int → Int → Option ((List (List Int)))) (Aa:Int) (Ac:Int):Option ((List (List Int))) :=
  Ab Ac (w64 (Aa - 1))

def d_spec_Groups_L1_B (fu:Nat) (Af:List (List Int) → Int → Option ((List (List Int)))) (Ah:List Pair) (Ac:List (List Int)) (Ab:Int) (Ae:Int → Int → Option ((List (List Int)))) (Aa:Int) (Ad:Int):Option ((List (List Int))) :=
  bif (decide (Ad ≥ 0)) then obind (ix Ac Ad) fun Ag=>obind (d_spec_l3Joins fu Ah Ag Ab) fun Ak=>bif Ak then d_spec_Groups_J2 fu Ae Ad Ad else d_spec_Groups_J2 fu Ae Ad Aa else bif (decide (Aa < 0)) then obind (apnd 24 Ac [([Ab]:List Int)]) fun Ai=>d_spec_Groups_J1 fu Af Ab Ai else obind (ix Ac Aa) fun Aj=>obind (apnd 8 Aj (([Ab]:List Int))) fun Al=>obind (ix Ac Aa) fun Am=>d_spec_Groups_J1 fu Af Ab (setx Ac Aa Al)
def d_spec_Groups_L1 (fu:Nat) (Aa:List (List Int) → Int → Option ((List (List Int)))) (Ad:List Pair) (Ac:List (List Int)) (Ab:Int):Nat → Int → Int → Option ((List (List Int)))
  | 0=>fun _ _=>none
  | n + 1=>d_spec_Groups_L1_B fu Aa Ad Ac Ab (d_spec_Groups_L1 fu Aa Ad Ac Ab n)

def d_spec_Groups_L2_B (fu:Nat)  (Ad:List Pair) (Af:List Int) (Ac:List (List Int) → Int → Option ((List (List Int)))) (Ab:List (List Int)) (Aa:Int):Option ((List (List Int))) :=
  bif (decide (Aa < 4)) then obind (d_spec_l1Has fu Af Aa) fun Ae=>bif (!Ae) then d_spec_Groups_J1 fu Ac Aa Ab else d_spec_Groups_L1 fu Ac Ad Ab Aa fu ((-1)) (w64 (((Ab.length:Int)) - 1)) else some (Ab)
def d_spec_Groups_L2 (fu:Nat)  (Ab:List Pair) (Aa:List Int):Nat → List (List Int) → Int → Option ((List (List Int)))
  | 0=>fun _ _=>none
  | n + 1=>d_spec_Groups_L2_B fu Ab Aa (d_spec_Groups_L2 fu Ab Aa n)

def d_spec_Groups (fu:Nat) (Ab:List Pair) (Aa:List Int):Option ((List (List Int))) :=
  d_spec_Groups_L2 fu Ab Aa fu (([]:List (List Int))) 0

def d_spec_GroupsOf (fu:Nat) (r1:Request):Option ((List (List Int))) :=
  obind (d_spec_Present fu r1) fun Aa=>obind (d_spec_Groups fu r1.fPairs Aa) fun Ab=>some (Ab)

def d_spec_GroupOf_L1_B (fu:Nat)  (Ab:List (List Int)) (Ac:Int) (k1:Int → Option (Int)) (Aa:Int):Option (Int) :=
  bif (decide (Aa < ((Ab.length:Int)))) then obind (ix Ab Aa) fun Ad=>obind (d_spec_l1Has fu Ad Ac) fun Ae=>bif Ae then some (Aa) else k1 (w64 (Aa + 1)) else some ((-1))
def d_spec_GroupOf_L1 (fu:Nat)  (Ab:List (List Int)) (Aa:Int):Nat → Int → Option (Int)
  | 0=>fun _=>none
  | n + 1=>d_spec_GroupOf_L1_B fu Ab Aa (d_spec_GroupOf_L1 fu Ab Aa n)

def d_spec_GroupOf (fu:Nat) (Ab:List (List Int)) (Aa:Int):Option (Int) :=
  d_spec_GroupOf_L1 fu Ab Aa fu 0

def d_spec_l15Group_J1 (fu:Nat) (Aa:Int → Option (Bool)) (Ab:Int)  : Option (Bool) :=
  Aa (w64 (Ab + 1))

def d_spec_l15Group_J2 (fu:Nat) (Ab:Int → Option (Bool)) (Aa:Int)  : Option (Bool) :=
  Ab (w64 (Aa + 1))

def d_spec_l15Group_J3 (fu:Nat) (Ac:Int → Option (Bool)) (x9:Plan) (Aa:(List (List Int))) (Ab:Int) (Af:Int) (Ad:Item):Option (Bool) :=
  obind (ix x9.fCartons Ab) fun Ae=>obind (d_spec_GroupOf fu Aa Ad.fClass) fun Ag=>bif (Ag != Ae.fGroup) then some (false) else d_spec_l15Group_J2 fu Ac Af

def d_spec_l15Group_L1_B (fu:Nat) (Ae:Int → Option (Bool)) (r1:Request) (Ah:List Int) (x9:Plan) (Ad:(List (List Int))) (Aa:Int) (Af:Int → Option (Bool)) (Ab:Int):Option (Bool) :=
  obind (ix x9.fCartons Aa) fun Ac=>bif (decide (Ab < ((Ac.fUnits.length:Int)))) then obind (ix x9.fCartons Aa) fun Aj=>obind (ix Ac.fUnits Ab) fun Ag=>obind (d_spec_l6Item fu r1 Ah Ag) fun Ai=>d_spec_l15Group_J3 fu Af x9 Ad Aa Ab Ai.1 else d_spec_l15Group_J1 fu Ae Aa
def d_spec_l15Group_L1 (fu:Nat) (Ab:Int → Option (Bool)) (r1:Request) (Ad:List Int) (x9:Plan) (Aa:(List (List Int))) (Ac:Int):Nat → Int → Option (Bool)
  | 0=>fun _=>none
  | n + 1=>d_spec_l15Group_L1_B fu Ab r1 Ad x9 Aa Ac (d_spec_l15Group_L1 fu Ab r1 Ad x9 Aa Ac n)

def d_spec_l15Group_L2_B (fu:Nat)  (r1:Request) (Ad:List Int) (x9:Plan) (Ab:(List (List Int))) (Ac:Int → Option (Bool)) (Aa:Int):Option (Bool) :=
  bif (decide (Aa < ((x9.fCartons.length:Int)))) then d_spec_l15Group_L1 fu Ac r1 Ad x9 Ab Aa fu 0 else some (true)
def d_spec_l15Group_L2 (fu:Nat)  (r1:Request) (Ab:List Int) (x9:Plan) (Aa:(List (List Int))):Nat → Int → Option (Bool)
  | 0=>fun _=>none
  | n + 1=>d_spec_l15Group_L2_B fu r1 Ab x9 Aa (d_spec_l15Group_L2 fu r1 Ab x9 Aa n)

def d_spec_l15Group (fu:Nat) (r1:Request) (Ab:List Int) (x9:Plan):Option (Bool) :=
  obind (d_spec_GroupsOf fu r1) fun Aa=>d_spec_l15Group_L2 fu r1 Ab x9 Aa fu 0

def d_spec_Cheapest_J1 (fu:Nat) (k3:Typ → Bool → Int → Option (Typ × Bool)) (Aa:Int) (Ac:Typ) (Ab:Bool):Option (Typ × Bool) :=
  k3 Ac Ab (w64 (Aa + 1))

def d_spec_Cheapest_L1_B (fu:Nat)  (r1:Request) (Ae:List Int) (k3:Typ → Bool → Int → Option (Typ × Bool)) (Ac:Typ) (Ad:Bool) (Aa:Int):Option (Typ × Bool) :=
  bif (decide (Aa < ((r1.fTypes.length:Int)))) then obind (ix r1.fTypes Aa) fun Ab=>obind (d_spec_Holds fu r1 Ae Ab) fun Af=>bif (!Af) then d_spec_Cheapest_J1 fu k3 Aa Ac Ad else bif (!Ad) then d_spec_Cheapest_J1 fu k3 Aa Ab true else bif (decide (Ab.fCost < Ac.fCost)) then d_spec_Cheapest_J1 fu k3 Aa Ab true else bif (Ab.fCost == Ac.fCost) then bif (decide (Ab.fId < Ac.fId)) then d_spec_Cheapest_J1 fu k3 Aa Ab true else d_spec_Cheapest_J1 fu k3 Aa Ac Ad else d_spec_Cheapest_J1 fu k3 Aa Ac Ad else some (Ac,Ad)
def d_spec_Cheapest_L1 (fu:Nat)  (r1:Request) (Aa:List Int):Nat → Typ → Bool → Int → Option (Typ × Bool)
  | 0=>fun _ _ _=>none
  | n + 1=>d_spec_Cheapest_L1_B fu r1 Aa (d_spec_Cheapest_L1 fu r1 Aa n)

def d_spec_Cheapest (fu:Nat) (r1:Request) (Aa:List Int):Option (Typ × Bool) :=
  d_spec_Cheapest_L1 fu r1 Aa fu ((⟨0,0,0,0,0,0,0⟩:Typ)) false 0

def d_spec_l15Cheap_J1 (fu:Nat) (k7:Int → Option (Bool)) (Aa:Int)  : Option (Bool) :=
  k7 (w64 (Aa + 1))

def d_spec_l15Cheap_J2 (fu:Nat) (k7:Int → Option (Bool)) (x5:Plan) (Aa:Int) (Ab:Typ) (Ad:Bool):Option (Bool) :=
  bif (!Ad) then some (false) else obind (ix x5.fCartons Aa) fun Ac=>bif (Ab.fId != Ac.fType) then some (false) else d_spec_l15Cheap_J1 fu k7 Aa

def d_spec_l15Cheap_L1_B (fu:Nat)  (r1:Request) (x5:Plan) (k7:Int → Option (Bool)) (Aa:Int):Option (Bool) :=
  bif (decide (Aa < ((x5.fCartons.length:Int)))) then obind (ix x5.fCartons Aa) fun Ac=>obind (d_spec_Cheapest fu r1 Ac.fUnits) fun Ab=>d_spec_l15Cheap_J2 fu k7 x5 Aa Ab.1 Ab.2 else some (true)
def d_spec_l15Cheap_L1 (fu:Nat)  (r1:Request) (x5:Plan):Nat → Int → Option (Bool)
  | 0=>fun _=>none
  | n + 1=>d_spec_l15Cheap_L1_B fu r1 x5 (d_spec_l15Cheap_L1 fu r1 x5 n)

def d_spec_l15Cheap (fu:Nat) (r1:Request) (x5:Plan):Option (Bool) :=
  d_spec_l15Cheap_L1 fu r1 x5 fu 0

def d_spec_Units (fu:Nat) (r1:Request):Option ((List Int)) :=
  obind (d_spec_Class fu r1) fun Ab=>bif (Ab != 0) then some (([]:List Int)) else obind (d_spec_l6Units fu r1) fun Aa=>some (Aa)

def d_spec_GramOf_J1 (fu:Nat) (k7:Int → Int → Option (Int)) (Aa:Int) (Ab:Int):Option (Int) :=
  k7 Ab (w64 (Aa + 1))

def d_spec_GramOf_J2 (fu:Nat) (k7:Int → Int → Option (Int)) (Ab:Int) (Aa:Int) (Ac:Item):Option (Int) :=
  d_spec_GramOf_J1 fu k7 Aa (w64 (Ab + Ac.fGram))

def d_spec_GramOf_L1_B (fu:Nat)  (r1:Request) (Ac:List Int) (Ad:(List Int)) (k7:Int → Int → Option (Int)) (Ab:Int) (Aa:Int):Option (Int) :=
  bif (decide (Aa < ((Ac.length:Int)))) then obind (ix Ac Aa) fun Af=>obind (d_spec_l6Item fu r1 Ad Af) fun Ae=>d_spec_GramOf_J2 fu k7 Ab Aa Ae.1 else some (Ab)
def d_spec_GramOf_L1 (fu:Nat)  (r1:Request) (Ab:List Int) (Aa:(List Int)):Nat → Int → Int → Option (Int)
  | 0=>fun _ _=>none
  | n + 1=>d_spec_GramOf_L1_B fu r1 Ab Aa (d_spec_GramOf_L1 fu r1 Ab Aa n)

def d_spec_GramOf (fu:Nat) (r1:Request) (Ab:List Int):Option (Int) :=
  obind (d_spec_Units fu r1) fun Aa=>d_spec_GramOf_L1 fu r1 Ab Aa fu 0 0

def d_spec_Gross_J1 (fu:Nat) (r1:Request) (x5:Carton) (Ab:Typ × Bool)  : Option (Int) :=
  obind (d_spec_GramOf fu r1 x5.fUnits) fun Aa=>some (w64 (Ab.1.fTare + Aa))

def d_spec_Gross (fu:Nat) (r1:Request) (x5:Carton):Option (Int) :=
  obind (d_spec_TypeById fu r1 x5.fType) fun Aa=>obind (d_spec_Class fu r1) fun Ab=>bif (Ab != 0) then some (0) else bif (!Aa.2) then some (0) else d_spec_Gross_J1 fu r1 x5 Aa

def d_spec_BoxOf_J1 (fu:Nat) (r1:Request) (x5:Carton) (Aa:Typ × Bool)  : Option (Box) :=
  obind (d_spec_Gross fu r1 x5) fun Ab=>some ((⟨Aa.1.fW,Aa.1.fD,Aa.1.fH,Ab⟩:Box))

def d_spec_BoxOf (fu:Nat) (r1:Request) (x5:Carton):Option (Box) :=
  obind (d_spec_TypeById fu r1 x5.fType) fun Aa=>obind (d_spec_Class fu r1) fun Ab=>bif (Ab != 0) then some ((⟨0,0,0,0⟩:Box)) else bif (!Aa.2) then some ((⟨0,0,0,0⟩:Box)) else d_spec_BoxOf_J1 fu r1 x5 Aa

def d_spec_l12Known (fu:Nat) (b1:Box) (Aa:Spot):Option (Bool) :=
  obind (d_spec_l1In fu b1.fW 0 2000) fun Ab=>bif Ab then obind (d_spec_l1In fu b1.fD 0 2000) fun Ae=>bif Ae then obind (d_spec_l1In fu b1.fH 0 2000) fun Ad=>bif Ad then obind (d_spec_l1In fu Aa.fX 0 2000) fun Ac=>bif Ac then obind (d_spec_l1In fu Aa.fY 0 2000) fun Ag=>bif Ag then obind (d_spec_l1In fu Aa.fZ 0 2000) fun Af=>some (Af) else some (false) else some (false) else some (false) else some (false) else some (false)

def d_spec_Within (fu:Nat) (p1:Pallet) (b2:Box) (Aa:Spot):Option (Bool) :=
  obind (d_spec_l12Known fu b2 Aa) fun Ab=>bif Ab then bif (decide (b2.fW > 0)) then bif (decide (b2.fD > 0)) then bif (decide (b2.fH > 0)) then bif (decide ((w64 (Aa.fX + b2.fW)) ≤ p1.fW)) then bif (decide ((w64 (Aa.fY + b2.fD)) ≤ p1.fD)) then some (decide ((w64 (Aa.fZ + b2.fH)) ≤ p1.fH)) else some (false) else some (false) else some (false) else some (false) else some (false) else some (false)

def d_spec_l15Inside_L1_B (fu:Nat)  (r1:Request) (x5:Plan) (k1:Int → Option (Bool)) (Aa:Int):Option (Bool) :=
  bif (decide (Aa < ((x5.fCartons.length:Int)))) then obind (ix x5.fCartons Aa) fun Ae=>obind (ix x5.fSpots Aa) fun Ab=>obind (d_spec_BoxOf fu r1 Ae) fun Ac=>obind (d_spec_Within fu r1.fPallet Ac Ab) fun Ad=>bif (!Ad) then some (false) else k1 (w64 (Aa + 1)) else some (true)
def d_spec_l15Inside_L1 (fu:Nat)  (r1:Request) (x5:Plan):Nat → Int → Option (Bool)
  | 0=>fun _=>none
  | n + 1=>d_spec_l15Inside_L1_B fu r1 x5 (d_spec_l15Inside_L1 fu r1 x5 n)

def d_spec_l15Inside (fu:Nat) (r1:Request) (x5:Plan):Option (Bool) :=
  d_spec_l15Inside_L1 fu r1 x5 fu 0

def d_spec_l12Cross (fu:Nat) (a1:Int) (Ab:Int) (b3:Int) (Aa:Int):Option (Bool) :=
  bif (decide (a1 < (w64 (b3 + Aa)))) then some (decide (b3 < (w64 (a1 + Ab)))) else some (false)

def d_spec_Overlap (fu:Nat) (a1:Box) (Aa:Spot) (b3:Box) (t4:Spot):Option (Bool) :=
  obind (d_spec_l12Known fu a1 Aa) fun Ae=>bif Ae then obind (d_spec_l12Known fu b3 t4) fun Ab=>bif Ab then bif (Aa.fPallet == t4.fPallet) then obind (d_spec_l12Cross fu Aa.fX a1.fW t4.fX b3.fW) fun Ad=>bif Ad then obind (d_spec_l12Cross fu Aa.fY a1.fD t4.fY b3.fD) fun Ac=>bif Ac then obind (d_spec_l12Cross fu Aa.fZ a1.fH t4.fZ b3.fH) fun Af=>some (Af) else some (false) else some (false) else some (false) else some (false) else some (false)

def d_spec_l15Apart_L1_B (fu:Nat) (k3:Int → Option (Bool)) (r1:Request) (x5:Plan) (Aa:Int) (k4:Int → Option (Bool)) (Ab:Int):Option (Bool) :=
  bif (decide (Ab < Aa)) then obind (ix x5.fCartons Aa) fun Ai=>obind (ix x5.fSpots Aa) fun Af=>obind (ix x5.fCartons Ab) fun Ae=>obind (ix x5.fSpots Ab) fun Ah=>obind (d_spec_BoxOf fu r1 Ai) fun Ac=>obind (d_spec_BoxOf fu r1 Ae) fun Ad=>obind (d_spec_Overlap fu Ac Af Ad Ah) fun Ag=>bif Ag then some (false) else k4 (w64 (Ab + 1)) else k3 (w64 (Aa + 1))
def d_spec_l15Apart_L1 (fu:Nat) (k3:Int → Option (Bool)) (r1:Request) (x5:Plan) (Aa:Int):Nat → Int → Option (Bool)
  | 0=>fun _=>none
  | n + 1=>d_spec_l15Apart_L1_B fu k3 r1 x5 Aa (d_spec_l15Apart_L1 fu k3 r1 x5 Aa n)

def d_spec_l15Apart_L2_B (fu:Nat)  (r1:Request) (x5:Plan) (k3:Int → Option (Bool)) (Aa:Int):Option (Bool) :=
  bif (decide (Aa < ((x5.fCartons.length:Int)))) then d_spec_l15Apart_L1 fu k3 r1 x5 Aa fu 0 else some (true)
def d_spec_l15Apart_L2 (fu:Nat)  (r1:Request) (x5:Plan):Nat → Int → Option (Bool)
  | 0=>fun _=>none
  | n + 1=>d_spec_l15Apart_L2_B fu r1 x5 (d_spec_l15Apart_L2 fu r1 x5 n)

def d_spec_l15Apart (fu:Nat) (r1:Request) (x5:Plan):Option (Bool) :=
  d_spec_l15Apart_L2 fu r1 x5 fu 0

def d_spec_l1Max (fu:Nat) (a1:Int) (b2:Int):Option (Int) :=
  bif (decide (a1 > b2)) then some (a1) else some (b2)

def d_spec_Pallets_J1 (fu:Nat) (k3:Int → Int → Option (Int)) (Aa:Int) (Ab:Int):Option (Int) :=
  k3 Ab (w64 (Aa + 1))

def d_spec_Pallets_L1_B (fu:Nat)  (Ab:List Spot) (k3:Int → Int → Option (Int)) (Ac:Int) (Aa:Int):Option (Int) :=
  bif (decide (Aa < ((Ab.length:Int)))) then obind (ix Ab Aa) fun Ad=>obind (d_spec_l1In fu Ad.fPallet 0 999999) fun Af=>bif Af then obind (ix Ab Aa) fun Ag=>obind (d_spec_l1Max fu Ac (w64 (Ad.fPallet + 1))) fun Ae=>d_spec_Pallets_J1 fu k3 Aa Ae else d_spec_Pallets_J1 fu k3 Aa Ac else some (Ac)
def d_spec_Pallets_L1 (fu:Nat)  (Aa:List Spot):Nat → Int → Int → Option (Int)
  | 0=>fun _ _=>none
  | n + 1=>d_spec_Pallets_L1_B fu Aa (d_spec_Pallets_L1 fu Aa n)

def d_spec_Pallets (fu:Nat) (Aa:List Spot):Option (Int) :=
  d_spec_Pallets_L1 fu Aa fu 0 0

def d_spec_OnPallet_J1 (fu:Nat) (k5:List Int → Int → Option ((List Int))) (Ab:Int) (Aa:List Int):Option ((List Int)) :=
  k5 Aa (w64 (Ab + 1))

def d_spec_OnPallet_J2 (fu:Nat) (k5:List Int → Int → Option ((List Int))) (x1:Plan) (Ad:Int) (Ab:List Int) (Aa:Int)  : Option ((List Int)) :=
  obind (ix x1.fSpots Aa) fun Ae=>bif (Ae.fPallet == Ad) then obind (apnd 8 Ab (([Aa]:List Int))) fun Ac=>d_spec_OnPallet_J1 fu k5 Aa Ac else d_spec_OnPallet_J1 fu k5 Aa Ab

def d_spec_OnPallet_L1_B (fu:Nat)  (x1:Plan) (Ac:Int) (k5:List Int → Int → Option ((List Int))) (Aa:List Int) (Ab:Int):Option ((List Int)) :=
  bif (decide (Ab < ((x1.fCartons.length:Int)))) then bif (((x1.fCartons.length:Int)) == ((x1.fSpots.length:Int))) then d_spec_OnPallet_J2 fu k5 x1 Ac Aa Ab else some (Aa) else some (Aa)
def d_spec_OnPallet_L1 (fu:Nat)  (x1:Plan) (Aa:Int):Nat → List Int → Int → Option ((List Int))
  | 0=>fun _ _=>none
  | n + 1=>d_spec_OnPallet_L1_B fu x1 Aa (d_spec_OnPallet_L1 fu x1 Aa n)

def d_spec_OnPallet (fu:Nat) (x1:Plan) (Aa:Int):Option ((List Int)) :=
  d_spec_OnPallet_L1 fu x1 Aa fu (([]:List Int)) 0

def d_spec_PalletGram_L1_B (fu:Nat)  (r1:Request) (x5:Plan) (Ac:(List Int)) (k1:Int → Int → Option (Int)) (Ab:Int) (Aa:Int):Option (Int) :=
  bif (decide (Aa < ((Ac.length:Int)))) then obind (ix Ac Aa) fun Af=>obind (ix x5.fCartons Af) fun Ae=>obind (d_spec_Gross fu r1 Ae) fun Ad=>k1 (w64 (Ab + Ad)) (w64 (Aa + 1)) else some (Ab)
def d_spec_PalletGram_L1 (fu:Nat)  (r1:Request) (x5:Plan) (Aa:(List Int)):Nat → Int → Int → Option (Int)
  | 0=>fun _ _=>none
  | n + 1=>d_spec_PalletGram_L1_B fu r1 x5 Aa (d_spec_PalletGram_L1 fu r1 x5 Aa n)

def d_spec_PalletGram (fu:Nat) (r1:Request) (x5:Plan) (Aa:Int):Option (Int) :=
  obind (d_spec_OnPallet fu x5 Aa) fun Ab=>d_spec_PalletGram_L1 fu r1 x5 Ab fu 0 0

def d_spec_l15Pallets_J1 (fu:Nat) (Ab:Int → Option (Bool)) (Aa:Int)  : Option (Bool) :=
  Ab (w64 (Aa + 1))

def d_spec_l15Pallets_L1_B (fu:Nat) (Ac:Int → Option (Bool)) (x5:Plan) (Af:Int) (Aa:(List Int)) (Ad:Int → Option (Bool)) (Ab:Int):Option (Bool) :=
  bif (decide (Ab < ((Aa.length:Int)))) then obind (ix Aa Ab) fun Ag=>obind (ix x5.fCartons Ag) fun Ae=>obind (ix Aa 0) fun Ah=>obind (ix x5.fCartons Ah) fun Ai=>bif (Ae.fGroup != Ai.fGroup) then some (false) else Ad (w64 (Ab + 1)) else d_spec_l15Pallets_J1 fu Ac Af
def d_spec_l15Pallets_L1 (fu:Nat) (Ac:Int → Option (Bool)) (x5:Plan) (Aa:Int) (Ab:(List Int)):Nat → Int → Option (Bool)
  | 0=>fun _=>none
  | n + 1=>d_spec_l15Pallets_L1_B fu Ac x5 Aa Ab (d_spec_l15Pallets_L1 fu Ac x5 Aa Ab n)

def d_spec_l15Pallets_J2 (fu:Nat) (Ac:Int → Option (Bool)) (x5:Plan) (Aa:Int) (Ab:(List Int))  : Option (Bool) :=
  d_spec_l15Pallets_L1 fu Ac x5 Aa Ab fu 1

def d_spec_l15Pallets_L2_B (fu:Nat)  (r1:Request) (x5:Plan) (Ae:Int) (Ac:Int → Option (Bool)) (Aa:Int):Option (Bool) :=
  bif (decide (Aa < Ae)) then obind (d_spec_OnPallet fu x5 Aa) fun Ab=>bif (((Ab.length:Int)) == 0) then some (false) else obind (d_spec_PalletGram fu r1 x5 Aa) fun Ad=>bif (decide (Ad > r1.fPallet.fGram)) then some (false) else d_spec_l15Pallets_J2 fu Ac x5 Aa Ab else some (true)
def d_spec_l15Pallets_L2 (fu:Nat)  (r1:Request) (x5:Plan) (Aa:Int):Nat → Int → Option (Bool)
  | 0=>fun _=>none
  | n + 1=>d_spec_l15Pallets_L2_B fu r1 x5 Aa (d_spec_l15Pallets_L2 fu r1 x5 Aa n)

def d_spec_l15Pallets (fu:Nat) (r1:Request) (x5:Plan):Option (Bool) :=
  obind (d_spec_Pallets fu x5.fSpots) fun Aa=>d_spec_l15Pallets_L2 fu r1 x5 Aa fu 0

def d_spec_Check_J1 (fu:Nat) (r1:Request) (x5:Plan)  : Option (Int) :=
  obind (d_spec_l6Units fu r1) fun Aa=>obind (d_spec_l15Units fu Aa x5) fun Ah=>bif (!Ah) then some (3) else obind (d_spec_l15Holds fu r1 x5) fun Ab=>bif (!Ab) then some (4) else obind (d_spec_l15Group fu r1 Aa x5) fun Ag=>bif (!Ag) then some (5) else obind (d_spec_l15Cheap fu r1 x5) fun Ae=>bif (!Ae) then some (6) else obind (d_spec_l15Inside fu r1 x5) fun Ac=>bif (!Ac) then some (7) else obind (d_spec_l15Apart fu r1 x5) fun Ad=>bif (!Ad) then some (8) else obind (d_spec_l15Pallets fu r1 x5) fun Af=>bif (!Af) then some (9) else some (0)

def d_spec_Check (fu:Nat) (r1:Request) (x5:Plan):Option (Int) :=
  obind (d_spec_Class fu r1) fun Ac=>bif (Ac != 0) then some (1) else obind (d_spec_PlanOk fu x5) fun Ab=>bif (!Ab) then some (2) else obind (d_spec_l15Empty fu x5) fun Aa=>bif Aa then some (2) else d_spec_Check_J1 fu r1 x5

def d_spec_Verify (fu:Nat) (Aa:ByteArray) (Ac:ByteArray):Option (Int × Int) :=
  obind (d_spec_ClassOf fu Aa) fun x3=>bif (x3 != 0) then some (x3,1) else obind (d_spec_ReadOrder fu Aa) fun x8=>obind (d_spec_ReadPlan fu Ac) fun Ab=>bif (!Ab.2) then some (0,2) else obind (d_spec_Check fu x8.1 Ab.1) fun Ad=>some (0,Ad)

def d_impl_Parts_J1 (fu:Nat) (k3:List ByteArray → Int → Int → Option ((List ByteArray))) (Ab:Int) (Aa:List ByteArray) (Ac:Int):Option ((List ByteArray)) :=
  k3 Aa Ac (w64 (Ab + 1))

def d_impl_Parts_L1_B (fu:Nat)  (Ab:ByteArray) (Ae:Int) (k3:List ByteArray → Int → Int → Option ((List ByteArray))) (Ad:List ByteArray) (Ac:Int) (Aa:Int):Option ((List ByteArray)) :=
  bif (decide (Aa < ((Ab.size:Int)))) then obind (sx Ab Aa) fun Ag=>bif (Ag == Ae) then obind (ssl Ab Ac Aa) fun Af=>obind (apnd 16 Ad (([Af]:List ByteArray))) fun Aj=>d_impl_Parts_J1 fu k3 Aa Aj (w64 (Aa + 1)) else d_impl_Parts_J1 fu k3 Aa Ad Ac else obind (ssl Ab Ac (Ab.size:Int)) fun Ah=>obind (apnd 16 Ad (([Ah]:List ByteArray))) fun Ai=>some (Ai)
def d_impl_Parts_L1 (fu:Nat)  (Ab:ByteArray) (Aa:Int):Nat → List ByteArray → Int → Int → Option ((List ByteArray))
  | 0=>fun _ _ _=>none
  | n + 1=>d_impl_Parts_L1_B fu Ab Aa (d_impl_Parts_L1 fu Ab Aa n)

def d_impl_Parts (fu:Nat) (Ab:ByteArray) (Aa:Int):Option ((List ByteArray)) :=
  d_impl_Parts_L1 fu Ab Aa fu (([]:List ByteArray)) 0 0

def d_strconv_Atoi (fu:Nat) (x1:ByteArray):Option (Int × Bool):=atoiO x1

def d_impl_in (fu:Nat) (n1:Int) (Aa:Int) (Ab:Int):Option (Bool) :=
  bif (decide (n1 ≥ Aa)) then some (decide (n1 ≤ Ab)) else some (false)

def d_strconv_Itoa (fu:Nat) (x1:Int):Option ByteArray:=itoaO x1

def d_impl_Digits (fu:Nat) (n1:Int):Option (ByteArray) :=
  obind (d_strconv_Itoa fu n1) fun x2=>some (x2)

def d_impl_Number_J1 (fu:Nat) (x2:Int × Bool)  : Option (Int × Bool) :=
  some (x2.1,true)

def d_impl_Number (fu:Nat) (Aa:ByteArray):Option (Int × Bool) :=
  obind (d_strconv_Atoi fu Aa) fun x2=>bif x2.2 then some (0,false) else obind (d_impl_in fu x2.1 0 999999) fun Ab=>bif (!Ab) then some (0,false) else obind (d_impl_Digits fu x2.1) fun Ac=>bif (!(Ac.toList == Aa.toList)) then some (0,false) else d_impl_Number_J1 fu x2

def d_impl_wordsOf_L1_B (fu:Nat)  (Ab:List ByteArray) (k2:List Int → Int → Option ((List Int) × Bool)) (Ac:List Int) (Aa:Int):Option ((List Int) × Bool) :=
  bif (decide (Aa < ((Ab.length:Int)))) then obind (ix Ab Aa) fun Af=>obind (d_impl_Number fu Af) fun Ad=>bif (!Ad.2) then some (([]:List Int),false) else obind (apnd 8 Ac (([Ad.1]:List Int))) fun Ae=>k2 Ae (w64 (Aa + 1)) else some (Ac,true)
def d_impl_wordsOf_L1 (fu:Nat)  (Aa:List ByteArray):Nat → List Int → Int → Option ((List Int) × Bool)
  | 0=>fun _ _=>none
  | n + 1=>d_impl_wordsOf_L1_B fu Aa (d_impl_wordsOf_L1 fu Aa n)

def d_impl_wordsOf_J1 (fu:Nat) (x4:(List ByteArray))  : Option ((List Int) × Bool) :=
  obind (sls x4 1 (x4.length:Int)) fun Aa=>d_impl_wordsOf_L1 fu Aa fu (([]:List Int)) 0

def d_impl_wordsOf (fu:Nat) (Ac:ByteArray) (Aa:ByteArray) (Ad:Int):Option ((List Int) × Bool) :=
  obind (d_impl_Parts fu Ac 32) fun x4=>obind (ix x4 0) fun Ab=>bif (!(Ab.toList == Aa.toList)) then some (([]:List Int),false) else bif (((x4.length:Int)) != (w64 (Ad + 1))) then some (([]:List Int),false) else d_impl_wordsOf_J1 fu x4

def d_impl_putLine (fu:Nat) (r1:Request) (Ac:ByteArray):Option (Int × Request) :=
  bif (Ac.toList == ((⟨#[119,97,121,32,102,105,114,115,116]⟩:ByteArray)).toList) then some (0,(⟨0,r1.fPallet,r1.fClasses,r1.fPairs,r1.fTypes,r1.fMaster,r1.fItems⟩:Request)) else bif (Ac.toList == ((⟨#[119,97,121,32,110,101,120,116]⟩:ByteArray)).toList) then some (0,(⟨1,r1.fPallet,r1.fClasses,r1.fPairs,r1.fTypes,r1.fMaster,r1.fItems⟩:Request)) else obind (d_impl_wordsOf fu Ac ((⟨#[112,97,108,108,101,116]⟩:ByteArray)) 4) fun Ad=>bif Ad.2 then obind (ix Ad.1 0) fun Au=>obind (ix Ad.1 1) fun Be=>obind (ix Ad.1 2) fun Bd=>obind (ix Ad.1 3) fun Aq=>some (1,(⟨r1.fWay,(⟨Au,Be,Bd,Aq⟩:Pallet),r1.fClasses,r1.fPairs,r1.fTypes,r1.fMaster,r1.fItems⟩:Request)) else obind (d_impl_wordsOf fu Ac ((⟨#[99,108,97,115,115,101,115]⟩:ByteArray)) 1) fun Ag=>bif Ag.2 then obind (ix Ag.1 0) fun Ax=>some (2,(⟨r1.fWay,r1.fPallet,Ax,r1.fPairs,r1.fTypes,r1.fMaster,r1.fItems⟩:Request)) else obind (d_impl_wordsOf fu Ac ((⟨#[119,105,116,104]⟩:ByteArray)) 2) fun Ae=>bif Ae.2 then obind (ix Ae.1 0) fun Ay=>obind (ix Ae.1 1) fun Bf=>obind (apnd 16 r1.fPairs (([(⟨Ay,Bf⟩:Pair)]:List Pair))) fun Am=>some (3,(⟨r1.fWay,r1.fPallet,r1.fClasses,Am,r1.fTypes,r1.fMaster,r1.fItems⟩:Request)) else obind (d_impl_wordsOf fu Ac ((⟨#[116,121,112,101]⟩:ByteArray)) 7) fun Aa=>bif Aa.2 then obind (ix Aa.1 0) fun Ak=>obind (ix Aa.1 1) fun Bg=>obind (ix Aa.1 2) fun Aj=>obind (ix Aa.1 3) fun Bb=>obind (ix Aa.1 4) fun Av=>obind (ix Aa.1 5) fun Al=>obind (ix Aa.1 6) fun At=>obind (apnd 56 r1.fTypes (([(⟨Ak,Bg,Aj,Bb,Av,Al,At⟩:Typ)]:List Typ))) fun Bc=>some (4,(⟨r1.fWay,r1.fPallet,r1.fClasses,r1.fPairs,Bc,r1.fMaster,r1.fItems⟩:Request)) else obind (d_impl_wordsOf fu Ac ((⟨#[109,97,115,116,101,114]⟩:ByteArray)) 1) fun Af=>bif Af.2 then obind (ix Af.1 0) fun Ap=>some (5,(⟨r1.fWay,r1.fPallet,r1.fClasses,r1.fPairs,r1.fTypes,Ap,r1.fItems⟩:Request)) else obind (d_impl_wordsOf fu Ac ((⟨#[105,116,101,109]⟩:ByteArray)) 7) fun Ab=>bif Ab.2 then obind (ix Ab.1 0) fun Ah=>obind (ix Ab.1 1) fun Ao=>obind (ix Ab.1 2) fun Ba=>obind (ix Ab.1 3) fun As=>obind (ix Ab.1 4) fun Ai=>obind (ix Ab.1 5) fun Az=>obind (ix Ab.1 6) fun Ar=>obind (apnd 56 r1.fItems (([(⟨Ah,Ao,Ba,As,Ai,Az,Ar⟩:Item)]:List Item))) fun Aw=>some (6,(⟨r1.fWay,r1.fPallet,r1.fClasses,r1.fPairs,r1.fTypes,r1.fMaster,Aw⟩:Request)) else some ((-1),r1)

def d_impl_mayFollow_J1 (fu:Nat)   : Option (Bool) :=
  some (false)

def d_impl_mayFollow (fu:Nat) (Aa:Int) (Ab:Int):Option (Bool) :=
  bif (Ab == 0) then bif (Ab == 0) then some (Aa == (w64 (Ab - 1))) else bif (Ab == 3) then bif (Aa == 2) then some (true) else some (Aa == 3) else bif (Ab == 4) then obind (d_impl_in fu Aa 2 4) fun Ag=>some (Ag) else bif (Ab == 5) then obind (d_impl_in fu Aa 2 4) fun Ad=>some (Ad) else bif (Ab == 6) then bif (Aa == 5) then some (true) else some (Aa == 6) else d_impl_mayFollow_J1 fu else bif (Ab == 1) then bif (Ab == 1) then some (Aa == (w64 (Ab - 1))) else bif (Ab == 3) then bif (Aa == 2) then some (true) else some (Aa == 3) else bif (Ab == 4) then obind (d_impl_in fu Aa 2 4) fun Ah=>some (Ah) else bif (Ab == 5) then obind (d_impl_in fu Aa 2 4) fun Af=>some (Af) else bif (Ab == 6) then bif (Aa == 5) then some (true) else some (Aa == 6) else d_impl_mayFollow_J1 fu else bif (Ab == 2) then some (Aa == (w64 (Ab - 1))) else bif (Ab == 3) then bif (Aa == 2) then some (true) else some (Aa == 3) else bif (Ab == 4) then obind (d_impl_in fu Aa 2 4) fun Ae=>some (Ae) else bif (Ab == 5) then obind (d_impl_in fu Aa 2 4) fun Ac=>some (Ac) else bif (Ab == 6) then bif (Aa == 5) then some (true) else some (Aa == 6) else d_impl_mayFollow_J1 fu

def d_impl_ReadOrder_L1_B (fu:Nat)  (x5:(List ByteArray)) (Ad:List ByteArray) (k1:Int → Int → Int → Int → Int → Int → List Pair → List Typ → Int → List Item → Int → Int → Option (Request × Int)) (Ao:Int) (Am:Int) (Aj:Int) (Ae:Int) (Ag:Int) (Ah:Int) (Af:List Pair) (Ak:List Typ) (Ac:Int) (Ai:List Item) (Al:Int) (Ab:Int):Option (Request × Int) :=
  bif (decide (Ab < ((Ad.length:Int)))) then obind (ix Ad Ab) fun Ap=>obind (d_impl_putLine fu ((⟨Ao,(⟨Am,Aj,Ae,Ag⟩:Pallet),Ah,Af,Ak,Ac,Ai⟩:Request)) Ap) fun Aa=>obind (d_impl_mayFollow fu Al Aa.1) fun Aq=>bif (!Aq) then some ((⟨0,(⟨0,0,0,0⟩:Pallet),0,[],[],0,[]⟩:Request),Ab) else k1 Aa.2.fWay Aa.2.fPallet.fW Aa.2.fPallet.fD Aa.2.fPallet.fH Aa.2.fPallet.fGram Aa.2.fClasses Aa.2.fPairs Aa.2.fTypes Aa.2.fMaster Aa.2.fItems Aa.1 (w64 (Ab + 1)) else bif (decide (Al < 5)) then some ((⟨0,(⟨0,0,0,0⟩:Pallet),0,[],[],0,[]⟩:Request),w64 (((x5.length:Int)) - 1)) else obind (ix x5 (w64 (((x5.length:Int)) - 1))) fun Ar=>bif (!(Ar.toList == ((⟨#[]⟩:ByteArray)).toList)) then some ((⟨0,(⟨0,0,0,0⟩:Pallet),0,[],[],0,[]⟩:Request),w64 (((x5.length:Int)) - 1)) else some ((⟨Ao,(⟨Am,Aj,Ae,Ag⟩:Pallet),Ah,Af,Ak,Ac,Ai⟩:Request),(-1))
def d_impl_ReadOrder_L1 (fu:Nat)  (x5:(List ByteArray)) (Aa:List ByteArray):Nat → Int → Int → Int → Int → Int → Int → List Pair → List Typ → Int → List Item → Int → Int → Option (Request × Int)
  | 0=>fun _ _ _ _ _ _ _ _ _ _ _ _=>none
  | n + 1=>d_impl_ReadOrder_L1_B fu x5 Aa (d_impl_ReadOrder_L1 fu x5 Aa n)

def d_impl_ReadOrder (fu:Nat) (Aa:ByteArray):Option (Request × Int) :=
  obind (d_impl_Parts fu Aa 10) fun x5=>bif (decide ((w64 (((x5.length:Int)) - 1)) > 60)) then some ((⟨0,(⟨0,0,0,0⟩:Pallet),0,[],[],0,[]⟩:Request),60) else obind (sls x5 0 (w64 (((x5.length:Int)) - 1))) fun Ab=>d_impl_ReadOrder_L1 fu x5 Ab fu 0 0 0 0 0 0 (([]:List Pair)) (([]:List Typ)) 0 (([]:List Item)) ((-1)) 0

def d_impl_TypeById_1 (fu:Nat) (t1:Typ) (x2:Int):Option (Bool) :=
  some (t1.fId == x2)

def d_slices_IndexFunc_impl_Type_impl_Type_L1_B (fu:Nat)  (Ab:List Typ) (f5:Typ → Option Bool) (k1:Int → Option (Int)) (Aa:Int):Option (Int) :=
  bif (decide (Aa < ((Ab.length:Int)))) then obind (ix Ab Aa) fun Ad=>obind (f5 Ad) fun Ac=>bif Ac then some (Aa) else k1 (w64 (Aa + 1)) else some ((-1))
def d_slices_IndexFunc_impl_Type_impl_Type_L1 (fu:Nat)  (Aa:List Typ) (f5:Typ → Option Bool):Nat → Int → Option (Int)
  | 0=>fun _=>none
  | n + 1=>d_slices_IndexFunc_impl_Type_impl_Type_L1_B fu Aa f5 (d_slices_IndexFunc_impl_Type_impl_Type_L1 fu Aa f5 n)

def d_slices_IndexFunc_impl_Type_impl_Type (fu:Nat) (Aa:List Typ) (f5:Typ → Option Bool):Option (Int) :=
  d_slices_IndexFunc_impl_Type_impl_Type_L1 fu Aa f5 fu 0

def d_impl_TypeById (fu:Nat) (r1:Request) (Ac:Int):Option (Typ × Bool) :=
  obind (d_slices_IndexFunc_impl_Type_impl_Type fu r1.fTypes (fun Ad=>d_impl_TypeById_1 fu Ad Ac)) fun Aa=>bif (decide (Aa < 0)) then some ((⟨0,0,0,0,0,0,0⟩:Typ),false) else obind (ix r1.fTypes Aa) fun Ab=>some (Ab,true)

def d_impl_MasterOf (fu:Nat) (r1:Request):Option (Typ × Bool) :=
  obind (d_impl_TypeById fu r1 r1.fMaster) fun Aa=>some (Aa.1,Aa.2)

def d_impl_isSide (fu:Nat) (n1:Int):Option (Bool) :=
  obind (d_impl_in fu n1 1 2000) fun x2=>some (x2)

def d_impl_PalletOk (fu:Nat) (x1:Pallet):Option (Bool) :=
  obind (d_impl_isSide fu x1.fW) fun x5=>bif x5 then obind (d_impl_isSide fu x1.fD) fun Aa=>bif Aa then obind (d_impl_isSide fu x1.fH) fun Ac=>bif Ac then obind (d_impl_in fu x1.fGram 1 100000) fun Ab=>some (Ab) else some (false) else some (false) else some (false)

def d_slices_IndexFunc_impl_Pair_impl_Pair_L1_B (fu:Nat)  (Ab:List Pair) (f5:Pair → Option Bool) (k1:Int → Option (Int)) (Aa:Int):Option (Int) :=
  bif (decide (Aa < ((Ab.length:Int)))) then obind (ix Ab Aa) fun Ad=>obind (f5 Ad) fun Ac=>bif Ac then some (Aa) else k1 (w64 (Aa + 1)) else some ((-1))
def d_slices_IndexFunc_impl_Pair_impl_Pair_L1 (fu:Nat)  (Aa:List Pair) (f5:Pair → Option Bool):Nat → Int → Option (Int)
  | 0=>fun _=>none
  | n + 1=>d_slices_IndexFunc_impl_Pair_impl_Pair_L1_B fu Aa f5 (d_slices_IndexFunc_impl_Pair_impl_Pair_L1 fu Aa f5 n)

def d_slices_IndexFunc_impl_Pair_impl_Pair (fu:Nat) (Aa:List Pair) (f5:Pair → Option Bool):Option (Int) :=
  d_slices_IndexFunc_impl_Pair_impl_Pair_L1 fu Aa f5 fu 0

def d_slices_ContainsFunc_impl_Pair_impl_Pair (fu:Nat) (Ab:List Pair) (f5:Pair → Option Bool):Option (Bool) :=
  obind (d_slices_IndexFunc_impl_Pair_impl_Pair fu Ab f5) fun Aa=>some (decide (Aa ≥ 0))

def d_impl_BoundsOk_1 (fu:Nat) (p1:Pair):Option (Bool) :=
  obind (d_impl_in fu p1.fA 0 3) fun x5=>bif (!x5) then some (true) else obind (d_impl_in fu p1.fB 0 3) fun Aa=>some (!Aa)

def d_slices_ContainsFunc_impl_Type_impl_Type (fu:Nat) (Ab:List Typ) (f5:Typ → Option Bool):Option (Bool) :=
  obind (d_slices_IndexFunc_impl_Type_impl_Type fu Ab f5) fun Aa=>some (decide (Aa ≥ 0))

def d_impl_TypeOk (fu:Nat) (x1:Typ):Option (Bool) :=
  obind (d_impl_in fu x1.fId 0 999) fun x5=>bif x5 then obind (d_impl_isSide fu x1.fW) fun Ab=>bif Ab then obind (d_impl_isSide fu x1.fH) fun Ae=>bif Ae then obind (d_impl_isSide fu x1.fD) fun Aa=>bif Aa then obind (d_impl_in fu x1.fTare 0 100000) fun Af=>bif Af then obind (d_impl_in fu x1.fGram 1 100000) fun Ac=>bif Ac then obind (d_impl_in fu x1.fCost 0 100000) fun Ad=>some (Ad) else some (false) else some (false) else some (false) else some (false) else some (false) else some (false)

def d_impl_BoundsOk_2 (fu:Nat) (t1:Typ):Option (Bool) :=
  obind (d_impl_TypeOk fu t1) fun x5=>some (!x5)

def d_impl_ItemOk (fu:Nat) (x1:Item):Option (Bool) :=
  obind (d_impl_in fu x1.fId 0 999) fun x5=>bif x5 then obind (d_impl_isSide fu x1.fW) fun Ab=>bif Ab then obind (d_impl_isSide fu x1.fH) fun Ae=>bif Ae then obind (d_impl_isSide fu x1.fD) fun Aa=>bif Aa then obind (d_impl_in fu x1.fGram 1 100000) fun Af=>bif Af then obind (d_impl_in fu x1.fClass 0 3) fun Ac=>bif Ac then obind (d_impl_in fu x1.fCount 1 6) fun Ad=>some (Ad) else some (false) else some (false) else some (false) else some (false) else some (false) else some (false)

def d_impl_BoundsOk_L1_B (fu:Nat)  (r1:Request) (k3:Int → Int → Option (Bool)) (Ac:Int) (Aa:Int):Option (Bool) :=
  bif (decide (Aa < ((r1.fItems.length:Int)))) then obind (ix r1.fItems Aa) fun Ab=>obind (d_impl_ItemOk fu Ab) fun Ad=>bif (!Ad) then some (false) else k3 (w64 (Ac + Ab.fCount)) (w64 (Aa + 1)) else some (decide (Ac ≤ 12))
def d_impl_BoundsOk_L1 (fu:Nat)  (r1:Request):Nat → Int → Int → Option (Bool)
  | 0=>fun _ _=>none
  | n + 1=>d_impl_BoundsOk_L1_B fu r1 (d_impl_BoundsOk_L1 fu r1 n)

def d_impl_BoundsOk_J1 (fu:Nat) (r1:Request)  : Option (Bool) :=
  d_impl_BoundsOk_L1 fu r1 fu 0 0

def d_impl_BoundsOk_J2 (fu:Nat) (r1:Request)  : Option (Bool) :=
  obind (d_slices_ContainsFunc_impl_Pair_impl_Pair fu r1.fPairs (fun Af=>d_impl_BoundsOk_1 fu Af)) fun Ae=>bif Ae then some (false) else obind (d_impl_in fu ((r1.fTypes.length:Int)) 1 5) fun Aa=>bif (!Aa) then some (false) else obind (d_slices_ContainsFunc_impl_Type_impl_Type fu r1.fTypes (fun Ab=>d_impl_BoundsOk_2 fu Ab)) fun Ad=>bif Ad then some (false) else obind (d_impl_in fu r1.fMaster 0 999) fun Ac=>bif (!Ac) then some (false) else bif (decide (((r1.fItems.length:Int)) > 8)) then some (false) else d_impl_BoundsOk_J1 fu r1

def d_impl_BoundsOk (fu:Nat) (r1:Request):Option (Bool) :=
  obind (d_impl_in fu r1.fWay 0 1) fun Ab=>bif (!Ab) then some (false) else obind (d_impl_PalletOk fu r1.fPallet) fun Aa=>bif (!Aa) then some (false) else obind (d_impl_in fu r1.fClasses 1 4) fun Ac=>bif (!Ac) then some (false) else bif (decide (((r1.fPairs.length:Int)) > 16)) then some (false) else d_impl_BoundsOk_J2 fu r1

def d_impl_namesOk_1 (fu:Nat) (q1:Typ) (x2:Typ):Option (Bool) :=
  some (q1.fId == x2.fId)

def d_impl_namesOk_2 (fu:Nat) (q1:Item) (x2:Item):Option (Bool) :=
  some (q1.fId == x2.fId)

def d_slices_IndexFunc_impl_Item_impl_Item_L1_B (fu:Nat)  (Ab:List Item) (f5:Item → Option Bool) (k1:Int → Option (Int)) (Aa:Int):Option (Int) :=
  bif (decide (Aa < ((Ab.length:Int)))) then obind (ix Ab Aa) fun Ad=>obind (f5 Ad) fun Ac=>bif Ac then some (Aa) else k1 (w64 (Aa + 1)) else some ((-1))
def d_slices_IndexFunc_impl_Item_impl_Item_L1 (fu:Nat)  (Aa:List Item) (f5:Item → Option Bool):Nat → Int → Option (Int)
  | 0=>fun _=>none
  | n + 1=>d_slices_IndexFunc_impl_Item_impl_Item_L1_B fu Aa f5 (d_slices_IndexFunc_impl_Item_impl_Item_L1 fu Aa f5 n)

def d_slices_IndexFunc_impl_Item_impl_Item (fu:Nat) (Aa:List Item) (f5:Item → Option Bool):Option (Int) :=
  d_slices_IndexFunc_impl_Item_impl_Item_L1 fu Aa f5 fu 0

def d_slices_ContainsFunc_impl_Item_impl_Item (fu:Nat) (Ab:List Item) (f5:Item → Option Bool):Option (Bool) :=
  obind (d_slices_IndexFunc_impl_Item_impl_Item fu Ab f5) fun Aa=>some (decide (Aa ≥ 0))

def d_impl_namesOk_3 (fu:Nat) (p1:Pair) (x2:Request):Option (Bool) :=
  bif (decide (p1.fA ≥ x2.fClasses)) then some (true) else some (decide (p1.fB ≥ x2.fClasses))

def d_impl_namesOk_J1 (fu:Nat) (k4:Int → Option (Bool)) (Aa:Int)  : Option (Bool) :=
  k4 (w64 (Aa + 1))

def d_impl_namesOk_L1_B (fu:Nat)  (r1:Request) (k4:Int → Option (Bool)) (Aa:Int):Option (Bool) :=
  bif (decide (Aa < ((r1.fItems.length:Int)))) then obind (ix r1.fItems Aa) fun Ab=>bif (decide (Ab.fClass ≥ r1.fClasses)) then some (false) else obind (sls r1.fItems 0 Aa) fun Ag=>obind (d_slices_ContainsFunc_impl_Item_impl_Item fu Ag (fun Ah=>d_impl_namesOk_2 fu Ah Ab)) fun Ad=>bif Ad then some (false) else d_impl_namesOk_J1 fu k4 Aa else obind (d_impl_MasterOf fu r1) fun Ae=>bif Ae.2 then obind (d_slices_ContainsFunc_impl_Pair_impl_Pair fu r1.fPairs (fun Af=>d_impl_namesOk_3 fu Af r1)) fun Ac=>some (!Ac) else some (false)
def d_impl_namesOk_L1 (fu:Nat)  (r1:Request):Nat → Int → Option (Bool)
  | 0=>fun _=>none
  | n + 1=>d_impl_namesOk_L1_B fu r1 (d_impl_namesOk_L1 fu r1 n)

def d_impl_namesOk_L2_B (fu:Nat)  (r1:Request) (k1:Int → Option (Bool)) (Aa:Int):Option (Bool) :=
  bif (decide (Aa < ((r1.fTypes.length:Int)))) then obind (ix r1.fTypes Aa) fun Ae=>obind (sls r1.fTypes 0 Aa) fun Ac=>obind (d_slices_ContainsFunc_impl_Type_impl_Type fu Ac (fun Ad=>d_impl_namesOk_1 fu Ad Ae)) fun Ab=>bif Ab then some (false) else k1 (w64 (Aa + 1)) else d_impl_namesOk_L1 fu r1 fu 0
def d_impl_namesOk_L2 (fu:Nat)  (r1:Request):Nat → Int → Option (Bool)
  | 0=>fun _=>none
  | n + 1=>d_impl_namesOk_L2_B fu r1 (d_impl_namesOk_L2 fu r1 n)

def d_impl_namesOk (fu:Nat) (r1:Request):Option (Bool) :=
  d_impl_namesOk_L2 fu r1 fu 0

def d_slices_Index_impl_Pair_impl_Pair_L1_B (fu:Nat)  (Ab:List Pair) (v5:Pair) (k1:Int → Option (Int)) (Aa:Int):Option (Int) :=
  bif (decide (Aa < ((Ab.length:Int)))) then obind (ix Ab Aa) fun Ac=>bif (decide (v5 = Ac)) then some (Aa) else k1 (w64 (Aa + 1)) else some ((-1))
def d_slices_Index_impl_Pair_impl_Pair_L1 (fu:Nat)  (Aa:List Pair) (v5:Pair):Nat → Int → Option (Int)
  | 0=>fun _=>none
  | n + 1=>d_slices_Index_impl_Pair_impl_Pair_L1_B fu Aa v5 (d_slices_Index_impl_Pair_impl_Pair_L1 fu Aa v5 n)

def d_slices_Index_impl_Pair_impl_Pair (fu:Nat) (Aa:List Pair) (v5:Pair):Option (Int) :=
  d_slices_Index_impl_Pair_impl_Pair_L1 fu Aa v5 fu 0

def d_slices_Contains_impl_Pair_impl_Pair (fu:Nat) (Ab:List Pair) (v5:Pair):Option (Bool) :=
  obind (d_slices_Index_impl_Pair_impl_Pair fu Ab v5) fun Aa=>some (decide (Aa ≥ 0))

def d_impl_Beside (fu:Nat) (Aa:List Pair) (a5:Int) (b6:Int):Option (Bool) :=
  obind (d_slices_Contains_impl_Pair_impl_Pair fu Aa ((⟨a5,b6⟩:Pair))) fun x7=>some (x7)

def d_impl_TableOk_L1_B (fu:Nat) (k3:Int → Option (Bool)) (Ac:List Pair) (Ad:Int) (Ab:Int) (k4:Int → Option (Bool)) (Aa:Int):Option (Bool) :=
  bif (decide (Aa < Ad)) then obind (d_impl_Beside fu Ac Ab Aa) fun Af=>obind (d_impl_Beside fu Ac Aa Ab) fun Ae=>bif (!(Af == Ae)) then some (false) else k4 (w64 (Aa + 1)) else k3 (w64 (Ab + 1))
def d_impl_TableOk_L1 (fu:Nat) (k3:Int → Option (Bool)) (Ac:List Pair) (Aa:Int) (Ab:Int):Nat → Int → Option (Bool)
  | 0=>fun _=>none
  | n + 1=>d_impl_TableOk_L1_B fu k3 Ac Aa Ab (d_impl_TableOk_L1 fu k3 Ac Aa Ab n)

def d_impl_TableOk_L2_B (fu:Nat)  (Ac:List Pair) (Ab:Int) (k3:Int → Option (Bool)) (Aa:Int):Option (Bool) :=
  bif (decide (Aa < Ab)) then obind (d_impl_Beside fu Ac Aa Aa) fun Ad=>bif (!Ad) then some (false) else d_impl_TableOk_L1 fu k3 Ac Ab Aa fu 0 else some (true)
def d_impl_TableOk_L2 (fu:Nat)  (Ab:List Pair) (Aa:Int):Nat → Int → Option (Bool)
  | 0=>fun _=>none
  | n + 1=>d_impl_TableOk_L2_B fu Ab Aa (d_impl_TableOk_L2 fu Ab Aa n)

def d_impl_TableOk (fu:Nat) (Ab:List Pair) (Aa:Int):Option (Bool) :=
  obind (d_impl_in fu Aa 1 4) fun x6=>bif (!x6) then some (false) else d_impl_TableOk_L2 fu Ab Aa fu 0

def d_slices_Sort_int_int (fu:Nat) (x1:List Int):Option (List Int):=sortI x1

def d_impl_Fits_J1 (fu:Nat) (x1:Item) (t2:Typ) (Ag:List Int) (Aj:List Int):Option (Bool) :=
  obind (d_slices_Sort_int_int fu Ag) fun Ab=>obind (d_slices_Sort_int_int fu Aj) fun Aa=>obind (ix Ab 0) fun Ah=>obind (ix Aa 0) fun Ac=>bif (decide (Ah ≤ Ac)) then obind (ix Ab 1) fun Ad=>obind (ix Aa 1) fun Af=>bif (decide (Ad ≤ Af)) then obind (ix Ab 2) fun Ai=>obind (ix Aa 2) fun Ae=>bif (decide (Ai ≤ Ae)) then some (decide (x1.fGram ≤ t2.fGram)) else some (false) else some (false) else some (false)

def d_impl_Fits (fu:Nat) (x1:Item) (t2:Typ):Option (Bool) :=
  d_impl_Fits_J1 fu x1 t2 (([x1.fW,x1.fH,x1.fD]:List Int)) (([t2.fW,t2.fH,t2.fD]:List Int))

def d_impl_Class_1 (fu:Nat) (x1:Item) (x2:Typ):Option (Bool) :=
  obind (d_impl_Fits fu x1 x2) fun x8=>some (!x8)

def d_impl_Class_2 (fu:Nat) (t1:Typ) (x2:Pallet):Option (Bool) :=
  bif (decide (t1.fW > x2.fW)) then some (true) else bif (decide (t1.fD > x2.fD)) then some (true) else bif (decide (t1.fH > x2.fH)) then some (true) else some (decide ((w64 (t1.fTare + t1.fGram)) > x2.fGram))

def d_impl_Class (fu:Nat) (r1:Request):Option (Int) :=
  obind (d_impl_MasterOf fu r1) fun Ag=>obind (d_impl_BoundsOk fu r1) fun Ad=>bif (!Ad) then some (2) else obind (d_impl_namesOk fu r1) fun Ae=>bif (!Ae) then some (3) else obind (d_impl_TableOk fu r1.fPairs r1.fClasses) fun Ah=>bif (!Ah) then some (4) else obind (d_slices_ContainsFunc_impl_Item_impl_Item fu r1.fItems (fun Af=>d_impl_Class_1 fu Af Ag.1)) fun Aa=>bif Aa then some (5) else obind (d_slices_ContainsFunc_impl_Type_impl_Type fu r1.fTypes (fun Ab=>d_impl_Class_2 fu Ab r1.fPallet)) fun Ac=>bif Ac then some (6) else some (0)

def d_impl_ClassOf (fu:Nat) (Aa:ByteArray):Option (Int) :=
  obind (d_impl_ReadOrder fu Aa) fun x2=>bif (decide (x2.2 ≥ 0)) then some (1) else obind (d_impl_Class fu x2.1) fun Ab=>some (Ab)

def d_impl_unitsRight_J1 (fu:Nat) (k3:Int → Option (Bool)) (Aa:Int)  : Option (Bool) :=
  k3 (w64 (Aa + 1))

def d_impl_unitsRight_L1_B (fu:Nat)  (Ab:List Int) (k3:Int → Option (Bool)) (Aa:Int):Option (Bool) :=
  bif (decide (Aa < ((Ab.length:Int)))) then obind (ix Ab Aa) fun Ac=>obind (d_impl_in fu Ac 0 999) fun Ae=>bif (!Ae) then some (false) else bif (decide (Aa > 0)) then obind (ix Ab (w64 (Aa - 1))) fun Ad=>bif (decide (Ad ≥ Ac)) then some (false) else d_impl_unitsRight_J1 fu k3 Aa else d_impl_unitsRight_J1 fu k3 Aa else some (decide (((Ab.length:Int)) ≤ 100))
def d_impl_unitsRight_L1 (fu:Nat)  (Aa:List Int):Nat → Int → Option (Bool)
  | 0=>fun _=>none
  | n + 1=>d_impl_unitsRight_L1_B fu Aa (d_impl_unitsRight_L1 fu Aa n)

def d_impl_unitsRight (fu:Nat) (Aa:List Int):Option (Bool) :=
  d_impl_unitsRight_L1 fu Aa fu 0

def d_impl_isPlace (fu:Nat) (n1:Int):Option (Bool) :=
  obind (d_impl_in fu n1 0 2000) fun x2=>some (x2)

def d_impl_PlanOk_J1 (fu:Nat) (k4:Int → Option (Bool)) (Aa:Int)  : Option (Bool) :=
  k4 (w64 (Aa + 1))

def d_impl_PlanOk_L1_B (fu:Nat)  (x1:Plan) (k4:Int → Option (Bool)) (Ab:Int):Option (Bool) :=
  bif (decide (Ab < ((x1.fCartons.length:Int)))) then obind (ix x1.fCartons Ab) fun Ac=>obind (ix x1.fSpots Ab) fun Aa=>obind (d_impl_in fu Ac.fType 0 999) fun Ah=>bif (!Ah) then some (false) else obind (d_impl_in fu Ac.fGroup 0 3) fun Ai=>bif (!Ai) then some (false) else obind (d_impl_unitsRight fu Ac.fUnits) fun Ae=>bif (!Ae) then some (false) else obind (d_impl_isPlace fu Aa.fPallet) fun Ag=>bif (!Ag) then some (false) else obind (d_impl_isPlace fu Aa.fX) fun Af=>bif (!Af) then some (false) else obind (d_impl_isPlace fu Aa.fY) fun Ad=>bif (!Ad) then some (false) else obind (d_impl_isPlace fu Aa.fZ) fun Aj=>bif (!Aj) then some (false) else d_impl_PlanOk_J1 fu k4 Ab else some (true)
def d_impl_PlanOk_L1 (fu:Nat)  (x1:Plan):Nat → Int → Option (Bool)
  | 0=>fun _=>none
  | n + 1=>d_impl_PlanOk_L1_B fu x1 (d_impl_PlanOk_L1 fu x1 n)

def d_impl_PlanOk_J2 (fu:Nat) (x1:Plan)  : Option (Bool) :=
  d_impl_PlanOk_L1 fu x1 fu 0

def d_impl_PlanOk (fu:Nat) (x1:Plan):Option (Bool) :=
  bif (((x1.fSpots.length:Int)) != ((x1.fCartons.length:Int))) then some (false) else bif (decide (((x1.fCartons.length:Int)) > 100)) then some (false) else d_impl_PlanOk_J2 fu x1

def d_impl_LineOf_J1 (fu:Nat) (Aa:(List Int) × Bool) (Ae:Int) (Ad:Int) (Ab:List Int):Option (Carton × Spot × Bool) :=
  obind (ix Aa.1 2) fun Ah=>obind (ix Aa.1 3) fun Ac=>obind (ix Aa.1 4) fun Af=>obind (ix Aa.1 5) fun Ag=>obind (d_impl_PlanOk fu ((⟨([(⟨Ae,Ad,Ab⟩:Carton)]:List Carton),([(⟨Ah,Ac,Af,Ag⟩:Spot)]:List Spot)⟩:Plan))) fun Ai=>bif (!Ai) then some ((⟨0,0,[]⟩:Carton),(⟨0,0,0,0⟩:Spot),false) else some ((⟨Ae,Ad,Ab⟩:Carton),(⟨Ah,Ac,Af,Ag⟩:Spot),true)

def d_impl_LineOf_J2 (fu:Nat) (Aa:(List Int) × Bool)  : Option (Carton × Spot × Bool) :=
  obind (ix Aa.1 0) fun Ad=>obind (ix Aa.1 1) fun Ac=>obind (sls Aa.1 6 (Aa.1.length:Int)) fun Ab=>d_impl_LineOf_J1 fu Aa Ad Ac Ab

def d_impl_LineOf (fu:Nat) (Ab:ByteArray):Option (Carton × Spot × Bool) :=
  obind (d_impl_Parts fu Ab 32) fun x8=>obind (d_impl_wordsOf fu Ab ((⟨#[99,97,114,116,111,110]⟩:ByteArray)) (w64 (((x8.length:Int)) - 1))) fun Aa=>bif (!Aa.2) then some ((⟨0,0,[]⟩:Carton),(⟨0,0,0,0⟩:Spot),false) else bif (decide ((w64 (((x8.length:Int)) - 1)) < 6)) then some ((⟨0,0,[]⟩:Carton),(⟨0,0,0,0⟩:Spot),false) else d_impl_LineOf_J2 fu Aa

def d_impl_ReadPlan_L1_B (fu:Nat)  (Ad:List ByteArray) (k2:List Carton → List Spot → Int → Option (Plan × Bool)) (Ae:List Carton) (Ac:List Spot) (Aa:Int):Option (Plan × Bool) :=
  bif (decide (Aa < ((Ad.length:Int)))) then obind (ix Ad Aa) fun Ah=>obind (d_impl_LineOf fu Ah) fun Ab=>bif (!Ab.2.2) then some ((⟨[],[]⟩:Plan),false) else obind (apnd 40 Ae [Ab.1]) fun Af=>obind (apnd 32 Ac (([Ab.2.1]:List Spot))) fun Ag=>k2 Af Ag (w64 (Aa + 1)) else some ((⟨Ae,Ac⟩:Plan),true)
def d_impl_ReadPlan_L1 (fu:Nat)  (Aa:List ByteArray):Nat → List Carton → List Spot → Int → Option (Plan × Bool)
  | 0=>fun _ _ _=>none
  | n + 1=>d_impl_ReadPlan_L1_B fu Aa (d_impl_ReadPlan_L1 fu Aa n)

def d_impl_ReadPlan_J1 (fu:Nat) (x5:(List ByteArray))  : Option (Plan × Bool) :=
  obind (sls x5 0 (w64 (((x5.length:Int)) - 1))) fun Aa=>d_impl_ReadPlan_L1 fu Aa fu (([]:List Carton)) (([]:List Spot)) 0

def d_impl_ReadPlan (fu:Nat) (Ab:ByteArray):Option (Plan × Bool) :=
  obind (d_impl_Parts fu Ab 10) fun x5=>obind (ix x5 (w64 (((x5.length:Int)) - 1))) fun Aa=>bif (!(Aa.toList == ((⟨#[]⟩:ByteArray)).toList)) then some ((⟨[],[]⟩:Plan),false) else bif (decide ((w64 (((x5.length:Int)) - 1)) > 100)) then some ((⟨[],[]⟩:Plan),false) else d_impl_ReadPlan_J1 fu x5

def d_impl_sound (fu:Nat) (r1:Request):Option (Bool) :=
  obind (d_impl_Class fu r1) fun Aa=>some (Aa == 0)

def d_slices_IndexFunc_impl_Carton_impl_Carton_L1_B (fu:Nat)  (Ab:List Carton) (f5:Carton → Option Bool) (k1:Int → Option (Int)) (Aa:Int):Option (Int) :=
  bif (decide (Aa < ((Ab.length:Int)))) then obind (ix Ab Aa) fun Ad=>obind (f5 Ad) fun Ac=>bif Ac then some (Aa) else k1 (w64 (Aa + 1)) else some ((-1))
def d_slices_IndexFunc_impl_Carton_impl_Carton_L1 (fu:Nat)  (Aa:List Carton) (f5:Carton → Option Bool):Nat → Int → Option (Int)
  | 0=>fun _=>none
  | n + 1=>d_slices_IndexFunc_impl_Carton_impl_Carton_L1_B fu Aa f5 (d_slices_IndexFunc_impl_Carton_impl_Carton_L1 fu Aa f5 n)

def d_slices_IndexFunc_impl_Carton_impl_Carton (fu:Nat) (Aa:List Carton) (f5:Carton → Option Bool):Option (Int) :=
  d_slices_IndexFunc_impl_Carton_impl_Carton_L1 fu Aa f5 fu 0

def d_slices_ContainsFunc_impl_Carton_impl_Carton (fu:Nat) (Ab:List Carton) (f5:Carton → Option Bool):Option (Bool) :=
  obind (d_slices_IndexFunc_impl_Carton_impl_Carton fu Ab f5) fun Aa=>some (decide (Aa ≥ 0))

def d_impl_Check_1 (fu:Nat) (c1:Carton):Option (Bool) :=
  some (((c1.fUnits.length:Int)) == 0)

def d_impl_allUnits_L1_B (fu:Nat)  (x1:Plan) (k1:List Int → Int → Option ((List Int))) (Ab:List Int) (Aa:Int):Option ((List Int)) :=
  bif (decide (Aa < ((x1.fCartons.length:Int)))) then obind (ix x1.fCartons Aa) fun Ad=>obind (apnd 8 Ab Ad.fUnits) fun Ac=>k1 Ac (w64 (Aa + 1)) else some (Ab)
def d_impl_allUnits_L1 (fu:Nat)  (x1:Plan):Nat → List Int → Int → Option ((List Int))
  | 0=>fun _ _=>none
  | n + 1=>d_impl_allUnits_L1_B fu x1 (d_impl_allUnits_L1 fu x1 n)

def d_impl_allUnits (fu:Nat) (x1:Plan):Option ((List Int)) :=
  d_impl_allUnits_L1 fu x1 fu (([]:List Int)) 0

def d_bits_Mul64 (fu:Nat) (x1:Int) (y2:Int):Option (Int × Int) :=
  some (IntKind.wrap .u64 ((IntKind.wrap .u64 ((IntKind.wrap .u64 ((Int.fdiv x1 (2 ^ (min 32 (IntKind.bits .u64)))) * (Int.fdiv y2 (2 ^ (min 32 (IntKind.bits .u64)))))) + (Int.fdiv (IntKind.wrap .u64 ((IntKind.wrap .u64 ((Int.fdiv x1 (2 ^ (min 32 (IntKind.bits .u64)))) * (IntKind.wrap .u64 (((BitVec.ofInt (IntKind.bits .u64) y2 &&& BitVec.ofInt (IntKind.bits .u64) 4294967295).toNat:Nat):Int)))) + (Int.fdiv (IntKind.wrap .u64 ((IntKind.wrap .u64 (((BitVec.ofInt (IntKind.bits .u64) x1 &&& BitVec.ofInt (IntKind.bits .u64) 4294967295).toNat:Nat):Int)) * (IntKind.wrap .u64 (((BitVec.ofInt (IntKind.bits .u64) y2 &&& BitVec.ofInt (IntKind.bits .u64) 4294967295).toNat:Nat):Int)))) (2 ^ (min 32 (IntKind.bits .u64)))))) (2 ^ (min 32 (IntKind.bits .u64)))))) + (Int.fdiv (IntKind.wrap .u64 ((IntKind.wrap .u64 (((BitVec.ofInt (IntKind.bits .u64) (IntKind.wrap .u64 ((IntKind.wrap .u64 ((Int.fdiv x1 (2 ^ (min 32 (IntKind.bits .u64)))) * (IntKind.wrap .u64 (((BitVec.ofInt (IntKind.bits .u64) y2 &&& BitVec.ofInt (IntKind.bits .u64) 4294967295).toNat:Nat):Int)))) + (Int.fdiv (IntKind.wrap .u64 ((IntKind.wrap .u64 (((BitVec.ofInt (IntKind.bits .u64) x1 &&& BitVec.ofInt (IntKind.bits .u64) 4294967295).toNat:Nat):Int)) * (IntKind.wrap .u64 (((BitVec.ofInt (IntKind.bits .u64) y2 &&& BitVec.ofInt (IntKind.bits .u64) 4294967295).toNat:Nat):Int)))) (2 ^ (min 32 (IntKind.bits .u64)))))) &&& BitVec.ofInt (IntKind.bits .u64) 4294967295).toNat:Nat):Int)) + (IntKind.wrap .u64 ((IntKind.wrap .u64 (((BitVec.ofInt (IntKind.bits .u64) x1 &&& BitVec.ofInt (IntKind.bits .u64) 4294967295).toNat:Nat):Int)) * (Int.fdiv y2 (2 ^ (min 32 (IntKind.bits .u64)))))))) (2 ^ (min 32 (IntKind.bits .u64))))),IntKind.wrap .u64 (x1 * y2))

def d_bits_Mul (fu:Nat) (x1:Int) (y2:Int):Option (Int × Int) :=
  obind (d_bits_Mul64 fu x1 y2) fun x3=>some (x3.1,x3.2)

def d_slices_Repeat_int_int_L1_B (fu:Nat)   (k3:List Int → Int → Option ((List Int))) (Aa:List Int) (Ab:Int):Option ((List Int)) :=
  bif (decide (Ab < ((Aa.length:Int)))) then obind (sls Aa Ab (Aa.length:Int)) fun Ad=>obind (sls Aa 0 Ab) fun Ac=>k3 (cpd Aa Ab Ac) (w64 (Ab + (cpn Aa Ab Ac))) else some (Aa)
def d_slices_Repeat_int_int_L1 (fu:Nat)   : Nat → List Int → Int → Option ((List Int))
  | 0=>fun _ _=>none
  | n + 1=>d_slices_Repeat_int_int_L1_B fu  (d_slices_Repeat_int_int_L1 fu  n)

def d_slices_Repeat_int_int_J1 (fu:Nat) (x1:List Int) (x8:Int × Int)  : Option ((List Int)) :=
  obind (mk 8 (0:Int) (w64 x8.2)) fun Aa=>d_slices_Repeat_int_int_L1 fu fu (cpd Aa 0 x1) (cpn Aa 0 x1)

def d_slices_Repeat_int_int_J2 (fu:Nat) (x1:List Int) (Aa:Int)  : Option ((List Int)) :=
  obind (d_bits_Mul fu (IntKind.wrap .u64 ((x1.length:Int))) (IntKind.wrap .u64 Aa)) fun x8=>bif (decide (x8.1 > 0)) then none else bif (decide (x8.2 > 9223372036854775807)) then none else d_slices_Repeat_int_int_J1 fu x1 x8

def d_slices_Repeat_int_int (fu:Nat) (x1:List Int) (Aa:Int):Option ((List Int)) :=
  bif (decide (Aa < 0)) then none else d_slices_Repeat_int_int_J2 fu x1 Aa

def d_impl_Units_L1_B (fu:Nat)  (r1:Request) (k1:List Int → Int → Option ((List Int))) (Ab:List Int) (Aa:Int):Option ((List Int)) :=
  bif (decide (Aa < ((r1.fItems.length:Int)))) then obind (ix r1.fItems Aa) fun Ad=>obind (d_slices_Repeat_int_int fu (([Aa]:List Int)) Ad.fCount) fun Ae=>obind (apnd 8 Ab Ae) fun Ac=>k1 Ac (w64 (Aa + 1)) else some (Ab)
def d_impl_Units_L1 (fu:Nat)  (r1:Request):Nat → List Int → Int → Option ((List Int))
  | 0=>fun _ _=>none
  | n + 1=>d_impl_Units_L1_B fu r1 (d_impl_Units_L1 fu r1 n)

def d_impl_Units (fu:Nat) (r1:Request):Option ((List Int)) :=
  obind (d_impl_sound fu r1) fun Aa=>bif (!Aa) then some (([]:List Int)) else d_impl_Units_L1 fu r1 fu (([]:List Int)) 0

def d_impl_places_L1_B (fu:Nat)  (n1:Int) (k1:List Int → Int → Option ((List Int))) (Ab:List Int) (Aa:Int):Option ((List Int)) :=
  bif (decide (Aa < n1)) then obind (apnd 8 Ab (([Aa]:List Int))) fun Ac=>k1 Ac (w64 (Aa + 1)) else some (Ab)
def d_impl_places_L1 (fu:Nat)  (n1:Int):Nat → List Int → Int → Option ((List Int))
  | 0=>fun _ _=>none
  | n + 1=>d_impl_places_L1_B fu n1 (d_impl_places_L1 fu n1 n)

def d_impl_places (fu:Nat) (n1:Int):Option ((List Int)) :=
  d_impl_places_L1 fu n1 fu (([]:List Int)) 0

def d_slices_Equal_int_int_L1_B (fu:Nat)  (Ab:List Int) (Ad:List Int) (k1:Int → Option (Bool)) (Aa:Int):Option (Bool) :=
  bif (decide (Aa < ((Ab.length:Int)))) then obind (ix Ab Aa) fun Ae=>obind (ix Ad Aa) fun Ac=>bif (Ae != Ac) then some (false) else k1 (w64 (Aa + 1)) else some (true)
def d_slices_Equal_int_int_L1 (fu:Nat)  (Ab:List Int) (Aa:List Int):Nat → Int → Option (Bool)
  | 0=>fun _=>none
  | n + 1=>d_slices_Equal_int_int_L1_B fu Ab Aa (d_slices_Equal_int_int_L1 fu Ab Aa n)

def d_slices_Equal_int_int (fu:Nat) (Ab:List Int) (Aa:List Int):Option (Bool) :=
  bif (((Ab.length:Int)) != ((Aa.length:Int))) then some (false) else d_slices_Equal_int_int_L1 fu Ab Aa fu 0

def d_slices_Clone_int_int (fu:Nat) (Ab:List Int):Option ((List Int)) :=
  obind (apnd 8 (([]:List Int)) Ab) fun Aa=>some (Aa)

def d_impl_thereOf_1 (fu:Nat) (u1:Int) (x2:Int):Option (Bool) :=
  obind (d_impl_in fu u1 0 (w64 (x2 - 1))) fun x5=>some (!x5)

def d_slices_IndexFunc_int_int_L1_B (fu:Nat)  (Ab:List Int) (f5:Int → Option Bool) (k1:Int → Option (Int)) (Aa:Int):Option (Int) :=
  bif (decide (Aa < ((Ab.length:Int)))) then obind (ix Ab Aa) fun Ad=>obind (f5 Ad) fun Ac=>bif Ac then some (Aa) else k1 (w64 (Aa + 1)) else some ((-1))
def d_slices_IndexFunc_int_int_L1 (fu:Nat)  (Aa:List Int) (f5:Int → Option Bool):Nat → Int → Option (Int)
  | 0=>fun _=>none
  | n + 1=>d_slices_IndexFunc_int_int_L1_B fu Aa f5 (d_slices_IndexFunc_int_int_L1 fu Aa f5 n)

def d_slices_IndexFunc_int_int (fu:Nat) (Aa:List Int) (f5:Int → Option Bool):Option (Int) :=
  d_slices_IndexFunc_int_int_L1 fu Aa f5 fu 0

def d_slices_DeleteFunc_int_int_J1 (fu:Nat) (k3:List Int → Int → Int → Option ((List Int))) (Ab:Int) (Ac:List Int) (Aa:Int):Option ((List Int)) :=
  k3 Ac Aa (w64 (Ab + 1))

def d_slices_DeleteFunc_int_int_L1_B (fu:Nat)  (f5:Int → Option Bool) (k3:List Int → Int → Int → Option ((List Int))) (Aa:List Int) (Ab:Int) (Ac:Int):Option ((List Int)) :=
  bif (decide (Ac < ((Aa.length:Int)))) then obind (ix Aa Ac) fun Ad=>obind (f5 Ad) fun Ae=>bif (!Ae) then obind (ix Aa Ab) fun Ah=>d_slices_DeleteFunc_int_int_J1 fu k3 Ac (setx Aa Ab Ad) (w64 (Ab + 1)) else d_slices_DeleteFunc_int_int_J1 fu k3 Ac Aa Ab else obind (sls Aa Ab (Aa.length:Int)) fun Ag=>obind (sls (clrd Aa Ab) 0 Ab) fun Af=>some (Af)
def d_slices_DeleteFunc_int_int_L1 (fu:Nat)  (f5:Int → Option Bool):Nat → List Int → Int → Int → Option ((List Int))
  | 0=>fun _ _ _=>none
  | n + 1=>d_slices_DeleteFunc_int_int_L1_B fu f5 (d_slices_DeleteFunc_int_int_L1 fu f5 n)

def d_slices_DeleteFunc_int_int (fu:Nat) (Ab:List Int) (f5:Int → Option Bool):Option ((List Int)) :=
  obind (d_slices_IndexFunc_int_int fu Ab f5) fun Aa=>bif (Aa == ((-1))) then some (Ab) else d_slices_DeleteFunc_int_int_L1 fu f5 fu Ab Aa (w64 (Aa + 1))

def d_impl_thereOf (fu:Nat) (r1:Request) (Ad:List Int):Option ((List Int)) :=
  obind (d_impl_Units fu r1) fun Aa=>obind (d_slices_Clone_int_int fu Ad) fun Ac=>obind (d_slices_DeleteFunc_int_int fu Ac (fun Ae=>d_impl_thereOf_1 fu Ae ((Aa.length:Int)))) fun Ab=>some (Ab)

def d_impl_itemsOf_J1 (fu:Nat) (k3:List Item → Int → Option ((List Item))) (Ab:Int) (Aa:List Item):Option ((List Item)) :=
  k3 Aa (w64 (Ab + 1))

def d_impl_itemsOf_L1_B (fu:Nat)  (r1:Request) (Ae:List Int) (Ac:(List Int)) (k3:List Item → Int → Option ((List Item))) (Ab:List Item) (Aa:Int):Option ((List Item)) :=
  bif (decide (Aa < ((Ae.length:Int)))) then obind (ix Ae Aa) fun Ad=>obind (d_impl_in fu Ad 0 (w64 (((Ac.length:Int)) - 1))) fun Ag=>bif Ag then obind (ix Ac Ad) fun Ai=>obind (ix r1.fItems Ai) fun Af=>obind (apnd 56 Ab (([Af]:List Item))) fun Ah=>d_impl_itemsOf_J1 fu k3 Aa Ah else d_impl_itemsOf_J1 fu k3 Aa Ab else some (Ab)
def d_impl_itemsOf_L1 (fu:Nat)  (r1:Request) (Ab:List Int) (Aa:(List Int)):Nat → List Item → Int → Option ((List Item))
  | 0=>fun _ _=>none
  | n + 1=>d_impl_itemsOf_L1_B fu r1 Ab Aa (d_impl_itemsOf_L1 fu r1 Ab Aa n)

def d_impl_itemsOf (fu:Nat) (r1:Request) (Ab:List Int):Option ((List Item)) :=
  obind (d_impl_Units fu r1) fun Aa=>d_impl_itemsOf_L1 fu r1 Ab Aa fu (([]:List Item)) 0

def d_impl_Holds_1 (fu:Nat) (x1:Item) (x2:Typ):Option (Bool) :=
  obind (d_impl_Fits fu x1 x2) fun x8=>some (!x8)

def d_impl_Volume_J1 (fu:Nat) (Aa:Int) (h2:Int) (d3:Int)  : Option (Int) :=
  some (w64 ((w64 (Aa * h2)) * d3))

def d_impl_Volume (fu:Nat) (Aa:Int) (h2:Int) (d3:Int):Option (Int) :=
  obind (d_impl_in fu Aa 0 2000) fun Ab=>bif (!Ab) then some (0) else obind (d_impl_in fu h2 0 2000) fun Ac=>bif (!Ac) then some (0) else obind (d_impl_in fu d3 0 2000) fun Ad=>bif (!Ad) then some (0) else d_impl_Volume_J1 fu Aa h2 d3

def d_impl_VolumeOf_L1_B (fu:Nat)  (Ac:(List Item)) (k1:Int → Int → Option (Int)) (Ad:Int) (Aa:Int):Option (Int) :=
  bif (decide (Aa < ((Ac.length:Int)))) then obind (ix Ac Aa) fun Ab=>obind (d_impl_Volume fu Ab.fW Ab.fH Ab.fD) fun Ae=>k1 (w64 (Ad + Ae)) (w64 (Aa + 1)) else some (Ad)
def d_impl_VolumeOf_L1 (fu:Nat)  (Aa:(List Item)):Nat → Int → Int → Option (Int)
  | 0=>fun _ _=>none
  | n + 1=>d_impl_VolumeOf_L1_B fu Aa (d_impl_VolumeOf_L1 fu Aa n)

def d_impl_VolumeOf (fu:Nat) (r1:Request) (Ab:List Int):Option (Int) :=
  obind (d_impl_itemsOf fu r1 Ab) fun Aa=>d_impl_VolumeOf_L1 fu Aa fu 0 0

def d_impl_GramOf_L1_B (fu:Nat)  (Ab:(List Item)) (k1:Int → Int → Option (Int)) (Ac:Int) (Aa:Int):Option (Int) :=
  bif (decide (Aa < ((Ab.length:Int)))) then obind (ix Ab Aa) fun Ad=>k1 (w64 (Ac + Ad.fGram)) (w64 (Aa + 1)) else some (Ac)
def d_impl_GramOf_L1 (fu:Nat)  (Aa:(List Item)):Nat → Int → Int → Option (Int)
  | 0=>fun _ _=>none
  | n + 1=>d_impl_GramOf_L1_B fu Aa (d_impl_GramOf_L1 fu Aa n)

def d_impl_GramOf (fu:Nat) (r1:Request) (Ab:List Int):Option (Int) :=
  obind (d_impl_itemsOf fu r1 Ab) fun Aa=>d_impl_GramOf_L1 fu Aa fu 0 0

def d_impl_within (fu:Nat) (r1:Request) (Aa:List Int) (t9:Typ):Option (Bool) :=
  obind (d_impl_VolumeOf fu r1 Aa) fun Ad=>obind (d_impl_Volume fu t9.fW t9.fH t9.fD) fun Ac=>bif (decide (Ad ≤ Ac)) then obind (d_impl_GramOf fu r1 Aa) fun Ab=>some (decide (Ab ≤ t9.fGram)) else some (false)

def d_impl_Holds_J1 (fu:Nat) (r1:Request) (Aa:List Int) (t9:Typ)  : Option (Bool) :=
  obind (d_impl_itemsOf fu r1 Aa) fun Ae=>obind (d_slices_ContainsFunc_impl_Item_impl_Item fu Ae (fun Ac=>d_impl_Holds_1 fu Ac t9)) fun Ab=>bif (!Ab) then obind (d_impl_within fu r1 Aa t9) fun Ad=>some (Ad) else some (false)

def d_impl_Holds (fu:Nat) (r1:Request) (Aa:List Int) (t9:Typ):Option (Bool) :=
  obind (d_impl_sound fu r1) fun Ac=>bif (!Ac) then some (false) else obind (d_impl_thereOf fu r1 Aa) fun Ab=>bif (((Ab.length:Int)) != ((Aa.length:Int))) then some (false) else d_impl_Holds_J1 fu r1 Aa t9

def d_slices_Compact_int_int (fu:Nat) (x1:List Int):Option (List Int):=cmpI x1

def d_impl_kinds (fu:Nat) (Ac:List Int):Option ((List Int)) :=
  obind (d_slices_Clone_int_int fu Ac) fun x5=>obind (d_slices_Sort_int_int fu x5) fun Ab=>obind (d_slices_Compact_int_int fu Ab) fun Aa=>some (Aa)

def d_impl_Present_L1_B (fu:Nat)  (r1:Request) (k1:List Int → Int → Option ((List Int))) (Ab:List Int) (Aa:Int):Option ((List Int)) :=
  bif (decide (Aa < ((r1.fItems.length:Int)))) then obind (ix r1.fItems Aa) fun Ac=>obind (apnd 8 Ab (([Ac.fClass]:List Int))) fun Ae=>k1 Ae (w64 (Aa + 1)) else obind (d_impl_kinds fu Ab) fun Ad=>some (Ad)
def d_impl_Present_L1 (fu:Nat)  (r1:Request):Nat → List Int → Int → Option ((List Int))
  | 0=>fun _ _=>none
  | n + 1=>d_impl_Present_L1_B fu r1 (d_impl_Present_L1 fu r1 n)

def d_impl_Present (fu:Nat) (r1:Request):Option ((List Int)) :=
  obind (d_impl_sound fu r1) fun Aa=>bif (!Aa) then some (([]:List Int)) else d_impl_Present_L1 fu r1 fu (([]:List Int)) 0

def d_impl_mutual (fu:Nat) (Aa:List Pair) (a5:Int) (b6:Int):Option (Bool) :=
  obind (d_impl_Beside fu Aa a5 b6) fun x7=>bif x7 then obind (d_impl_Beside fu Aa b6 a5) fun Ab=>some (Ab) else some (false)

def d_impl_Groups_1_1 (fu:Nat) (x1:Int) (x2:List Pair) (x8:Int):Option (Bool) :=
  obind (d_impl_mutual fu x2 x8 x1) fun Aa=>some (!Aa)

def d_slices_ContainsFunc_int_int (fu:Nat) (Ab:List Int) (f5:Int → Option Bool):Option (Bool) :=
  obind (d_slices_IndexFunc_int_int fu Ab f5) fun Aa=>some (decide (Aa ≥ 0))

def d_impl_Groups_1 (fu:Nat) (l1:List Int) (x5:List Pair) (Aa:Int):Option (Bool) :=
  obind (d_slices_ContainsFunc_int_int fu l1 (fun Ac=>d_impl_Groups_1_1 fu Ac x5 Aa)) fun Ab=>some (!Ab)

def d_slices_IndexFunc_ints_int_L1_B (fu:Nat)  (Ab:List (List Int)) (f5:(List Int) → Option Bool) (k1:Int → Option (Int)) (Aa:Int):Option (Int) :=
  bif (decide (Aa < ((Ab.length:Int)))) then obind (ix Ab Aa) fun Ad=>obind (f5 Ad) fun Ac=>bif Ac then some (Aa) else k1 (w64 (Aa + 1)) else some ((-1))
def d_slices_IndexFunc_ints_int_L1 (fu:Nat)  (Aa:List (List Int)) (f5:(List Int) → Option Bool):Nat → Int → Option (Int)
  | 0=>fun _=>none
  | n + 1=>d_slices_IndexFunc_ints_int_L1_B fu Aa f5 (d_slices_IndexFunc_ints_int_L1 fu Aa f5 n)

def d_slices_IndexFunc_ints_int (fu:Nat) (Aa:List (List Int)) (f5:(List Int) → Option Bool):Option (Int) :=
  d_slices_IndexFunc_ints_int_L1 fu Aa f5 fu 0

def d_impl_Groups_J1 (fu:Nat) (k3:List (List Int) → Int → Option ((List (List Int)))) (Ab:Int) (Aa:List (List Int)):Option ((List (List Int))) :=
  k3 Aa (w64 (Ab + 1))

def d_impl_Groups_L1_B (fu:Nat)  (Aj:List Pair) (Ae:(List Int)) (k3:List (List Int) → Int → Option ((List (List Int)))) (Aa:List (List Int)) (Ab:Int):Option ((List (List Int))) :=
  bif (decide (Ab < ((Ae.length:Int)))) then obind (ix Ae Ab) fun Ad=>obind (d_impl_in fu Ad 0 3) fun Ag=>bif (!Ag) then d_impl_Groups_J1 fu k3 Ab Aa else obind (d_slices_IndexFunc_ints_int fu Aa (fun Ak=>d_impl_Groups_1 fu Ak Aj Ad)) fun Ac=>bif (decide (Ac < 0)) then obind (apnd 24 Aa [([Ad]:List Int)]) fun Ai=>d_impl_Groups_J1 fu k3 Ab Ai else obind (ix Aa Ac) fun Ah=>obind (apnd 8 Ah (([Ad]:List Int))) fun Af=>obind (ix Aa Ac) fun Al=>d_impl_Groups_J1 fu k3 Ab (setx Aa Ac Af) else some (Aa)
def d_impl_Groups_L1 (fu:Nat)  (Ab:List Pair) (Aa:(List Int)):Nat → List (List Int) → Int → Option ((List (List Int)))
  | 0=>fun _ _=>none
  | n + 1=>d_impl_Groups_L1_B fu Ab Aa (d_impl_Groups_L1 fu Ab Aa n)

def d_impl_Groups (fu:Nat) (Ac:List Pair) (Ab:List Int):Option ((List (List Int))) :=
  obind (d_impl_kinds fu Ab) fun Aa=>d_impl_Groups_L1 fu Ac Aa fu (([]:List (List Int))) 0

def d_impl_GroupsOf (fu:Nat) (r1:Request):Option ((List (List Int))) :=
  obind (d_impl_sound fu r1) fun Ab=>bif (!Ab) then some (([]:List (List Int))) else obind (d_impl_Present fu r1) fun Ac=>obind (d_impl_Groups fu r1.fPairs Ac) fun Aa=>some (Aa)

def d_slices_Index_int_int_L1_B (fu:Nat)  (Ab:List Int) (v5:Int) (k1:Int → Option (Int)) (Aa:Int):Option (Int) :=
  bif (decide (Aa < ((Ab.length:Int)))) then obind (ix Ab Aa) fun Ac=>bif (v5 == Ac) then some (Aa) else k1 (w64 (Aa + 1)) else some ((-1))
def d_slices_Index_int_int_L1 (fu:Nat)  (Aa:List Int) (v5:Int):Nat → Int → Option (Int)
  | 0=>fun _=>none
  | n + 1=>d_slices_Index_int_int_L1_B fu Aa v5 (d_slices_Index_int_int_L1 fu Aa v5 n)

def d_slices_Index_int_int (fu:Nat) (Aa:List Int) (v5:Int):Option (Int) :=
  d_slices_Index_int_int_L1 fu Aa v5 fu 0

def d_slices_Contains_int_int (fu:Nat) (Aa:List Int) (v5:Int):Option (Bool) :=
  obind (d_slices_Index_int_int fu Aa v5) fun x6=>some (decide (x6 ≥ 0))

def d_impl_cartonFault_1 (fu:Nat) (y1:Item) (x2:Carton) (x8:List (List Int)):Option (Bool) :=
  bif (decide (x2.fGroup ≥ ((x8.length:Int)))) then some (true) else obind (ix x8 x2.fGroup) fun Aa=>obind (d_slices_Contains_int_int fu Aa y1.fClass) fun Ab=>some (!Ab)

def d_impl_Cheapest_J1 (fu:Nat) (k3:Typ → Bool → Int → Option (Typ × Bool)) (Ab:Int) (Ac:Typ) (Aa:Bool):Option (Typ × Bool) :=
  k3 Ac Aa (w64 (Ab + 1))

def d_impl_Cheapest_L1_B (fu:Nat)  (r1:Request) (Ae:List Int) (k3:Typ → Bool → Int → Option (Typ × Bool)) (Ac:Typ) (Ad:Bool) (Aa:Int):Option (Typ × Bool) :=
  bif (decide (Aa < ((r1.fTypes.length:Int)))) then obind (ix r1.fTypes Aa) fun Ab=>obind (d_impl_Holds fu r1 Ae Ab) fun Af=>bif (!Af) then d_impl_Cheapest_J1 fu k3 Aa Ac Ad else bif (!Ad) then d_impl_Cheapest_J1 fu k3 Aa Ab true else bif (decide (Ab.fCost < Ac.fCost)) then d_impl_Cheapest_J1 fu k3 Aa Ab true else bif (Ab.fCost == Ac.fCost) then bif (decide (Ab.fId < Ac.fId)) then d_impl_Cheapest_J1 fu k3 Aa Ab true else d_impl_Cheapest_J1 fu k3 Aa Ac Ad else d_impl_Cheapest_J1 fu k3 Aa Ac Ad else some (Ac,Ad)
def d_impl_Cheapest_L1 (fu:Nat)  (r1:Request) (Aa:List Int):Nat → Typ → Bool → Int → Option (Typ × Bool)
  | 0=>fun _ _ _=>none
  | n + 1=>d_impl_Cheapest_L1_B fu r1 Aa (d_impl_Cheapest_L1 fu r1 Aa n)

def d_impl_Cheapest (fu:Nat) (r1:Request) (Aa:List Int):Option (Typ × Bool) :=
  d_impl_Cheapest_L1 fu r1 Aa fu ((⟨0,0,0,0,0,0,0⟩:Typ)) false 0

def d_impl_cartonFault_J1 (fu:Nat) (k3:Int → Option (Int)) (Aa:Int)  : Option (Int) :=
  k3 (w64 (Aa + 1))

def d_impl_cartonFault_L1_B (fu:Nat)  (r1:Request) (x5:Plan) (k6:Int → Option (Int)) (Aa:Int):Option (Int) :=
  bif (decide (Aa < ((x5.fCartons.length:Int)))) then obind (ix x5.fCartons Aa) fun Ab=>obind (d_impl_Cheapest fu r1 Ab.fUnits) fun Ac=>bif (Ac.1.fId != Ab.fType) then some (6) else k6 (w64 (Aa + 1)) else some (0)
def d_impl_cartonFault_L1 (fu:Nat)  (r1:Request) (x5:Plan):Nat → Int → Option (Int)
  | 0=>fun _=>none
  | n + 1=>d_impl_cartonFault_L1_B fu r1 x5 (d_impl_cartonFault_L1 fu r1 x5 n)

def d_impl_cartonFault_L2_B (fu:Nat)  (r1:Request) (x5:Plan) (Ac:(List (List Int))) (k5:Int → Option (Int)) (Aa:Int):Option (Int) :=
  bif (decide (Aa < ((x5.fCartons.length:Int)))) then obind (ix x5.fCartons Aa) fun Ab=>obind (d_impl_itemsOf fu r1 Ab.fUnits) fun Af=>obind (d_slices_ContainsFunc_impl_Item_impl_Item fu Af (fun Ad=>d_impl_cartonFault_1 fu Ad Ab Ac)) fun Ae=>bif Ae then some (5) else k5 (w64 (Aa + 1)) else d_impl_cartonFault_L1 fu r1 x5 fu 0
def d_impl_cartonFault_L2 (fu:Nat)  (r1:Request) (x5:Plan) (Aa:(List (List Int))):Nat → Int → Option (Int)
  | 0=>fun _=>none
  | n + 1=>d_impl_cartonFault_L2_B fu r1 x5 Aa (d_impl_cartonFault_L2 fu r1 x5 Aa n)

def d_impl_cartonFault_L3_B (fu:Nat)  (r1:Request) (x5:Plan) (k3:Int → Option (Int)) (Aa:Int):Option (Int) :=
  bif (decide (Aa < ((x5.fCartons.length:Int)))) then obind (ix x5.fCartons Aa) fun Ab=>obind (d_impl_TypeById fu r1 Ab.fType) fun Ac=>bif (!Ac.2) then some (4) else obind (d_impl_Holds fu r1 Ab.fUnits Ac.1) fun Ae=>bif (!Ae) then some (4) else d_impl_cartonFault_J1 fu k3 Aa else obind (d_impl_GroupsOf fu r1) fun Ad=>d_impl_cartonFault_L2 fu r1 x5 Ad fu 0
def d_impl_cartonFault_L3 (fu:Nat)  (r1:Request) (x5:Plan):Nat → Int → Option (Int)
  | 0=>fun _=>none
  | n + 1=>d_impl_cartonFault_L3_B fu r1 x5 (d_impl_cartonFault_L3 fu r1 x5 n)

def d_impl_cartonFault (fu:Nat) (r1:Request) (x5:Plan):Option (Int) :=
  d_impl_cartonFault_L3 fu r1 x5 fu 0

def d_impl_Gross_J1 (fu:Nat) (r1:Request) (x5:Carton) (Ab:Typ × Bool)  : Option (Int) :=
  obind (d_impl_GramOf fu r1 x5.fUnits) fun Aa=>some (w64 (Ab.1.fTare + Aa))

def d_impl_Gross (fu:Nat) (r1:Request) (x5:Carton):Option (Int) :=
  obind (d_impl_TypeById fu r1 x5.fType) fun Aa=>bif (!Aa.2) then some (0) else obind (d_impl_sound fu r1) fun Ab=>bif (!Ab) then some (0) else d_impl_Gross_J1 fu r1 x5 Aa

def d_impl_BoxOf_J1 (fu:Nat) (r1:Request) (x5:Carton) (Aa:Typ × Bool)  : Option (Box) :=
  obind (d_impl_Gross fu r1 x5) fun Ab=>some ((⟨Aa.1.fW,Aa.1.fD,Aa.1.fH,Ab⟩:Box))

def d_impl_BoxOf (fu:Nat) (r1:Request) (x5:Carton):Option (Box) :=
  obind (d_impl_TypeById fu r1 x5.fType) fun Aa=>bif (!Aa.2) then some ((⟨0,0,0,0⟩:Box)) else obind (d_impl_sound fu r1) fun Ab=>bif (!Ab) then some ((⟨0,0,0,0⟩:Box)) else d_impl_BoxOf_J1 fu r1 x5 Aa

def d_impl_Within_J1 (fu:Nat) (p1:Pallet) (b2:Box) (Aa:Spot)  : Option (Bool) :=
  bif (decide ((w64 (Aa.fX + b2.fW)) ≤ p1.fW)) then bif (decide ((w64 (Aa.fY + b2.fD)) ≤ p1.fD)) then some (decide ((w64 (Aa.fZ + b2.fH)) ≤ p1.fH)) else some (false) else some (false)

def d_impl_Within (fu:Nat) (p1:Pallet) (b2:Box) (Aa:Spot):Option (Bool) :=
  obind (d_impl_isPlace fu Aa.fX) fun Ae=>bif (!Ae) then some (false) else obind (d_impl_isPlace fu Aa.fY) fun Af=>bif (!Af) then some (false) else obind (d_impl_isPlace fu Aa.fZ) fun Ad=>bif (!Ad) then some (false) else obind (d_impl_isSide fu b2.fW) fun Ab=>bif (!Ab) then some (false) else obind (d_impl_isSide fu b2.fD) fun Ac=>bif (!Ac) then some (false) else obind (d_impl_isSide fu b2.fH) fun Ag=>bif (!Ag) then some (false) else d_impl_Within_J1 fu p1 b2 Aa

def d_impl_placed (fu:Nat) (b1:Box) (Aa:Spot):Option (Bool) :=
  obind (d_impl_isPlace fu b1.fW) fun Ab=>bif Ab then obind (d_impl_isPlace fu b1.fD) fun Ae=>bif Ae then obind (d_impl_isPlace fu b1.fH) fun Ad=>bif Ad then obind (d_impl_isPlace fu Aa.fX) fun Ac=>bif Ac then obind (d_impl_isPlace fu Aa.fY) fun Ag=>bif Ag then obind (d_impl_isPlace fu Aa.fZ) fun Af=>some (Af) else some (false) else some (false) else some (false) else some (false) else some (false)

def d_impl_cross (fu:Nat) (a1:Int) (Aa:Int) (b3:Int) (Ab:Int):Option (Bool) :=
  bif (decide (a1 < (w64 (b3 + Ab)))) then some (decide (b3 < (w64 (a1 + Aa)))) else some (false)

def d_impl_Overlap_J1 (fu:Nat) (a1:Box) (Aa:Spot) (b3:Box) (t4:Spot)  : Option (Bool) :=
  obind (d_impl_cross fu Aa.fX a1.fW t4.fX b3.fW) fun Ab=>bif Ab then obind (d_impl_cross fu Aa.fY a1.fD t4.fY b3.fD) fun Ac=>bif Ac then obind (d_impl_cross fu Aa.fZ a1.fH t4.fZ b3.fH) fun Ad=>some (Ad) else some (false) else some (false)

def d_impl_Overlap (fu:Nat) (a1:Box) (Aa:Spot) (b3:Box) (t4:Spot):Option (Bool) :=
  obind (d_impl_placed fu a1 Aa) fun Ab=>bif (!Ab) then some (false) else obind (d_impl_placed fu b3 t4) fun Ac=>bif (!Ac) then some (false) else bif (Aa.fPallet != t4.fPallet) then some (false) else d_impl_Overlap_J1 fu a1 Aa b3 t4

def d_impl_Pallets_J1 (fu:Nat) (k3:Int → Int → Option (Int)) (Ab:Int) (Aa:Int):Option (Int) :=
  k3 Aa (w64 (Ab + 1))

def d_impl_Pallets_L1_B (fu:Nat)  (Ad:List Spot) (k3:Int → Int → Option (Int)) (Aa:Int) (Ab:Int):Option (Int) :=
  bif (decide (Ab < ((Ad.length:Int)))) then obind (ix Ad Ab) fun Ac=>obind (d_impl_in fu Ac.fPallet 0 999999) fun Ae=>bif Ae then d_impl_Pallets_J1 fu k3 Ab (if (w64 (Ac.fPallet + 1)) > Aa then w64 (Ac.fPallet + 1) else Aa) else d_impl_Pallets_J1 fu k3 Ab Aa else some (Aa)
def d_impl_Pallets_L1 (fu:Nat)  (Aa:List Spot):Nat → Int → Int → Option (Int)
  | 0=>fun _ _=>none
  | n + 1=>d_impl_Pallets_L1_B fu Aa (d_impl_Pallets_L1 fu Aa n)

def d_impl_Pallets (fu:Nat) (Aa:List Spot):Option (Int) :=
  d_impl_Pallets_L1 fu Aa fu 0 0

def d_impl_OnPallet_J1 (fu:Nat) (k3:List Int → Int → Option ((List Int))) (Ab:Int) (Aa:List Int):Option ((List Int)) :=
  k3 Aa (w64 (Ab + 1))

def d_impl_OnPallet_L1_B (fu:Nat)  (x1:Plan) (Ae:Int) (k3:List Int → Int → Option ((List Int))) (Ab:List Int) (Aa:Int):Option ((List Int)) :=
  bif (decide (Aa < ((x1.fSpots.length:Int)))) then obind (ix x1.fSpots Aa) fun Ad=>bif (Ad.fPallet == Ae) then obind (apnd 8 Ab (([Aa]:List Int))) fun Ac=>d_impl_OnPallet_J1 fu k3 Aa Ac else d_impl_OnPallet_J1 fu k3 Aa Ab else some (Ab)
def d_impl_OnPallet_L1 (fu:Nat)  (x1:Plan) (Aa:Int):Nat → List Int → Int → Option ((List Int))
  | 0=>fun _ _=>none
  | n + 1=>d_impl_OnPallet_L1_B fu x1 Aa (d_impl_OnPallet_L1 fu x1 Aa n)

def d_impl_OnPallet (fu:Nat) (x1:Plan) (Aa:Int):Option ((List Int)) :=
  bif (((x1.fSpots.length:Int)) != ((x1.fCartons.length:Int))) then some (([]:List Int)) else d_impl_OnPallet_L1 fu x1 Aa fu (([]:List Int)) 0

def d_impl_PalletGram_L1_B (fu:Nat)  (r1:Request) (x5:Plan) (Ac:(List Int)) (k1:Int → Int → Option (Int)) (Ab:Int) (Aa:Int):Option (Int) :=
  bif (decide (Aa < ((Ac.length:Int)))) then obind (ix Ac Aa) fun Af=>obind (ix x5.fCartons Af) fun Ae=>obind (d_impl_Gross fu r1 Ae) fun Ad=>k1 (w64 (Ab + Ad)) (w64 (Aa + 1)) else some (Ab)
def d_impl_PalletGram_L1 (fu:Nat)  (r1:Request) (x5:Plan) (Aa:(List Int)):Nat → Int → Int → Option (Int)
  | 0=>fun _ _=>none
  | n + 1=>d_impl_PalletGram_L1_B fu r1 x5 Aa (d_impl_PalletGram_L1 fu r1 x5 Aa n)

def d_impl_PalletGram (fu:Nat) (r1:Request) (x5:Plan) (Aa:Int):Option (Int) :=
  obind (d_impl_OnPallet fu x5 Aa) fun Ab=>d_impl_PalletGram_L1 fu r1 x5 Ab fu 0 0

def d_impl_spotFault_1 (fu:Nat) (i1:Int) (x2:Plan) (Aa:List Int):Option (Bool) :=
  obind (ix x2.fCartons i1) fun Ab=>obind (ix Aa 0) fun Ac=>obind (ix x2.fCartons Ac) fun Ad=>some (Ab.fGroup != Ad.fGroup)

def d_impl_spotFault_L1_B (fu:Nat) (k4:Int → Option (Int)) (x5:Plan) (Ac:List Box) (Ab:Int) (k5:Int → Option (Int)) (Aa:Int):Option (Int) :=
  bif (decide (Aa < Ab)) then obind (ix Ac Ab) fun Af=>obind (ix x5.fSpots Ab) fun Ag=>obind (ix Ac Aa) fun Ae=>obind (ix x5.fSpots Aa) fun Ah=>obind (d_impl_Overlap fu Af Ag Ae Ah) fun Ad=>bif Ad then some (8) else k5 (w64 (Aa + 1)) else k4 (w64 (Ab + 1))
def d_impl_spotFault_L1 (fu:Nat) (k4:Int → Option (Int)) (x5:Plan) (Aa:List Box) (Ab:Int):Nat → Int → Option (Int)
  | 0=>fun _=>none
  | n + 1=>d_impl_spotFault_L1_B fu k4 x5 Aa Ab (d_impl_spotFault_L1 fu k4 x5 Aa Ab n)

def d_impl_spotFault_J1 (fu:Nat) (Ab:Int → Option (Int)) (Aa:Int)  : Option (Int) :=
  Ab (w64 (Aa + 1))

def d_impl_spotFault_J2 (fu:Nat) (Ad:Int → Option (Int)) (x5:Plan) (Ab:Int) (Aa:(List Int))  : Option (Int) :=
  obind (d_slices_ContainsFunc_int_int fu Aa (fun Ac=>d_impl_spotFault_1 fu Ac x5 Aa)) fun Ae=>bif Ae then some (9) else d_impl_spotFault_J1 fu Ad Ab

def d_impl_spotFault_L2_B (fu:Nat)  (r1:Request) (x5:Plan) (Ae:Int) (Ac:Int → Option (Int)) (Aa:Int):Option (Int) :=
  bif (decide (Aa < Ae)) then obind (d_impl_OnPallet fu x5 Aa) fun Ab=>bif (((Ab.length:Int)) == 0) then some (9) else obind (d_impl_PalletGram fu r1 x5 Aa) fun Ad=>bif (decide (Ad > r1.fPallet.fGram)) then some (9) else d_impl_spotFault_J2 fu Ac x5 Aa Ab else some (0)
def d_impl_spotFault_L2 (fu:Nat)  (r1:Request) (x5:Plan) (Aa:Int):Nat → Int → Option (Int)
  | 0=>fun _=>none
  | n + 1=>d_impl_spotFault_L2_B fu r1 x5 Aa (d_impl_spotFault_L2 fu r1 x5 Aa n)

def d_impl_spotFault_L3_B (fu:Nat)  (r1:Request) (x5:Plan) (Aa:List Box) (k4:Int → Option (Int)) (Ab:Int):Option (Int) :=
  bif (decide (Ab < ((Aa.length:Int)))) then d_impl_spotFault_L1 fu k4 x5 Aa Ab fu 0 else obind (d_impl_Pallets fu x5.fSpots) fun Ac=>d_impl_spotFault_L2 fu r1 x5 Ac fu 0
def d_impl_spotFault_L3 (fu:Nat)  (r1:Request) (x5:Plan) (Aa:List Box):Nat → Int → Option (Int)
  | 0=>fun _=>none
  | n + 1=>d_impl_spotFault_L3_B fu r1 x5 Aa (d_impl_spotFault_L3 fu r1 x5 Aa n)

def d_impl_spotFault_L4_B (fu:Nat)  (r1:Request) (x5:Plan) (k1:List Box → Int → Option (Int)) (Ac:List Box) (Aa:Int):Option (Int) :=
  bif (decide (Aa < ((x5.fCartons.length:Int)))) then obind (ix x5.fCartons Aa) fun Ag=>obind (d_impl_BoxOf fu r1 Ag) fun Ab=>obind (ix x5.fSpots Aa) fun Af=>obind (d_impl_Within fu r1.fPallet Ab Af) fun Ad=>bif (!Ad) then some (7) else obind (apnd 32 Ac (([Ab]:List Box))) fun Ae=>k1 Ae (w64 (Aa + 1)) else d_impl_spotFault_L3 fu r1 x5 Ac fu 0
def d_impl_spotFault_L4 (fu:Nat)  (r1:Request) (x5:Plan):Nat → List Box → Int → Option (Int)
  | 0=>fun _ _=>none
  | n + 1=>d_impl_spotFault_L4_B fu r1 x5 (d_impl_spotFault_L4 fu r1 x5 n)

def d_impl_spotFault (fu:Nat) (r1:Request) (x5:Plan):Option (Int) :=
  d_impl_spotFault_L4 fu r1 x5 fu (([]:List Box)) 0

def d_impl_Check_J1 (fu:Nat) (r1:Request) (x5:Plan)  : Option (Int) :=
  obind (d_impl_allUnits fu x5) fun Ad=>obind (d_slices_Sort_int_int fu Ad) fun Af=>obind (d_impl_Units fu r1) fun Ag=>obind (d_impl_places fu ((Ag.length:Int))) fun Ae=>obind (d_slices_Equal_int_int fu Af Ae) fun Ac=>bif (!Ac) then some (3) else obind (d_impl_cartonFault fu r1 x5) fun Aa=>bif (Aa != 0) then some (Aa) else obind (d_impl_spotFault fu r1 x5) fun Ab=>some (Ab)

def d_impl_Check (fu:Nat) (r1:Request) (x5:Plan):Option (Int) :=
  obind (d_impl_sound fu r1) fun Ac=>bif (!Ac) then some (1) else obind (d_impl_PlanOk fu x5) fun Aa=>bif (!Aa) then some (2) else obind (d_slices_ContainsFunc_impl_Carton_impl_Carton fu x5.fCartons (fun Ad=>d_impl_Check_1 fu Ad)) fun Ab=>bif Ab then some (2) else d_impl_Check_J1 fu r1 x5

def d_impl_Verify (fu:Nat) (Aa:ByteArray) (Ac:ByteArray):Option (Int × Int) :=
  obind (d_impl_ClassOf fu Aa) fun x3=>bif (x3 != 0) then some (x3,1) else obind (d_impl_ReadOrder fu Aa) fun x8=>obind (d_impl_ReadPlan fu Ac) fun Ab=>bif (!Ab.2) then some (0,2) else obind (d_impl_Check fu x8.1 Ab.1) fun Ad=>some (0,Ad)

end Go.Proofs.YthkaklkinepfkaaGreatDoor
