/- FnExactPack: what the functions that it reaches compute,on plain data. Printed by gen.py. -/
import Derived.Test.YthkaklkinepfkaaGreatDoorS12
import Derived.Test.YthkaklkinepfkaaGreatDoorS15
set_option linter.unusedVariables false
namespace Go.Proofs.YthkaklkinepfkaaGreatDoor
open Go
def d_spec_Parts_J1 (fu:Nat) (k3:List ByteArray → Int → Int → Option ((List ByteArray))) (Ab:Int) (Ac:List ByteArray) (Aa:Int):Option ((List ByteArray)) :=
  k3 Ac Aa (w64 (Ab + 1))

def d_spec_Parts_L1_B (fu:Nat)  (Ab:ByteArray) (Aj:Int) (k3:List ByteArray → Int → Int → Option ((List ByteArray))) (Ac:List ByteArray) (Ad:Int) (Aa:Int):Option ((List ByteArray)) :=
  bif (decide (Aa ≤ ((Ab.size:Int)))) then bif (Aa == ((Ab.size:Int))) then obind (ssl Ab Ad Aa) fun Af=>obind (apnd 16 Ac (([Af]:List ByteArray))) fun Ag=>d_spec_Parts_J1 fu k3 Aa Ag (w64 (Aa + 1)) else obind (sx Ab Aa) fun Ai=>bif (Ai == Aj) then obind (ssl Ab Ad Aa) fun Ah=>obind (apnd 16 Ac (([Ah]:List ByteArray))) fun Ae=>d_spec_Parts_J1 fu k3 Aa Ae (w64 (Aa + 1)) else d_spec_Parts_J1 fu k3 Aa Ac Ad else some (Ac)
def d_spec_Parts_L1 (fu:Nat)  (Ab:ByteArray) (Aa:Int):Nat → List ByteArray → Int → Int → Option ((List ByteArray))
  | 0=>fun _ _ _=>none
  | n + 1=>d_spec_Parts_L1_B fu Ab Aa (d_spec_Parts_L1 fu Ab Aa n)

def d_spec_Parts (fu:Nat) (Ab:ByteArray) (Aa:Int):Option ((List ByteArray)) :=
  d_spec_Parts_L1 fu Ab Aa fu (([]:List ByteArray)) 0 0

def d_spec_Digits_J1 (fu:Nat) (k3:Int → ByteArray → Option (ByteArray)) (Ac:Int) (Ad:ByteArray) (Ab:Int):Option (ByteArray) :=
  obind (bstr (([(⟨w8 (w64 (48 + Ab))⟩:U8)]:List U8))) fun Ae=>obind (scat Ae Ad) fun Aa=>k3 (w64 (Int.tdiv Ac 10)) Aa

def d_spec_Digits_L1_B (fu:Nat)  (n1:Int) (k3:Int → ByteArray → Option (ByteArray)) (Aa:Int) (Ab:ByteArray):Option (ByteArray) :=
  bif (Aa != 0) then bif (decide ((Int.tmod Aa 10) < 0)) then d_spec_Digits_J1 fu k3 Aa Ab (w64 (0 - (Int.tmod Aa 10))) else d_spec_Digits_J1 fu k3 Aa Ab (Int.tmod Aa 10) else bif (decide (n1 < 0)) then obind (scat ((⟨#[45]⟩:ByteArray)) Ab) fun Ac=>some (Ac) else some (Ab)
def d_spec_Digits_L1 (fu:Nat)  (n1:Int):Nat → Int → ByteArray → Option (ByteArray)
  | 0=>fun _ _=>none
  | n + 1=>d_spec_Digits_L1_B fu n1 (d_spec_Digits_L1 fu n1 n)

def d_spec_Digits (fu:Nat) (n1:Int):Option (ByteArray) :=
  bif (n1 == 0) then some ((⟨#[48]⟩:ByteArray)) else d_spec_Digits_L1 fu n1 fu n1 ((⟨#[]⟩:ByteArray))

def d_spec_Number_J1 (fu:Nat) (k8:Int → Int → Option (Int × Bool)) (Ab:Int) (Aa:Int):Option (Int × Bool) :=
  k8 Aa (w64 (Ab + 1))

def d_spec_Number_J2 (fu:Nat) (k8:Int → Int → Option (Int × Bool)) (Ad:ByteArray) (Ac:Int) (Aa:Int)  : Option (Int × Bool) :=
  obind (sx Ad Aa) fun Ab=>d_spec_Number_J1 fu k8 Aa (w64 ((w64 ((w64 (10 * Ac)) + (w64 Ab))) - 48))

def d_spec_Number_L1_B (fu:Nat)  (Aa:ByteArray) (k8:Int → Int → Option (Int × Bool)) (Ac:Int) (Ab:Int):Option (Int × Bool) :=
  bif (decide (Ab < ((Aa.size:Int)))) then obind (sx Aa Ab) fun Af=>bif (decide (Af < 48)) then some (0,false) else obind (sx Aa Ab) fun Ad=>bif (decide (Ad > 57)) then some (0,false) else d_spec_Number_J2 fu k8 Aa Ac Ab else obind (d_spec_Digits fu Ac) fun Ae=>bif (!(Ae.toList == Aa.toList)) then some (0,false) else some (Ac,true)
def d_spec_Number_L1 (fu:Nat)  (Aa:ByteArray):Nat → Int → Int → Option (Int × Bool)
  | 0=>fun _ _=>none
  | n + 1=>d_spec_Number_L1_B fu Aa (d_spec_Number_L1 fu Aa n)

def d_spec_Number_J3 (fu:Nat) (Aa:ByteArray)  : Option (Int × Bool) :=
  d_spec_Number_L1 fu Aa fu 0 0

def d_spec_Number (fu:Nat) (Aa:ByteArray):Option (Int × Bool) :=
  bif (decide (((Aa.size:Int)) < 1)) then some (0,false) else bif (decide (((Aa.size:Int)) > 6)) then some (0,false) else d_spec_Number_J3 fu Aa

def d_spec_l4Nums_L1_B (fu:Nat)  (x4:(List ByteArray)) (k2:List Int → Int → Option ((List Int) × Bool)) (Ab:List Int) (Aa:Int):Option ((List Int) × Bool) :=
  bif (decide (Aa < ((x4.length:Int)))) then obind (ix x4 Aa) fun Ae=>obind (d_spec_Number fu Ae) fun Ac=>bif (!Ac.2) then some (([]:List Int),false) else obind (apnd 8 Ab (([Ac.1]:List Int))) fun Ad=>k2 Ad (w64 (Aa + 1)) else some (Ab,true)
def d_spec_l4Nums_L1 (fu:Nat)  (x4:(List ByteArray)):Nat → List Int → Int → Option ((List Int) × Bool)
  | 0=>fun _ _=>none
  | n + 1=>d_spec_l4Nums_L1_B fu x4 (d_spec_l4Nums_L1 fu x4 n)

def d_spec_l4Nums_J1 (fu:Nat) (x4:(List ByteArray))  : Option ((List Int) × Bool) :=
  d_spec_l4Nums_L1 fu x4 fu (([]:List Int)) 1

def d_spec_l4Nums (fu:Nat) (Ab:ByteArray) (Ac:ByteArray) (Ad:Int):Option ((List Int) × Bool) :=
  obind (d_spec_Parts fu Ab 32) fun x4=>obind (ix x4 0) fun Aa=>bif (!(Aa.toList == Ac.toList)) then some (([]:List Int),false) else bif (((x4.length:Int)) != (w64 (Ad + 1))) then some (([]:List Int),false) else d_spec_l4Nums_J1 fu x4

def d_spec_l4Line (fu:Nat) (Ab:List ByteArray) (Aa:Int) (Ad:ByteArray) (Ae:Int):Option ((List Int) × Bool) :=
  bif (decide (Aa ≥ (w64 (((Ab.length:Int)) - 1)))) then some (([]:List Int),false) else obind (ix Ab Aa) fun Af=>obind (d_spec_l4Nums fu Af Ad Ae) fun Ac=>some (Ac.1,Ac.2)

def d_spec_ReadOrder_L1_B (fu:Nat)  (x5:(List ByteArray)) (Aw:Int) (Aj:Int) (Ah:Int) (Ag:Int) (Af:Int) (Ap:Int) (Ak:List Pair) (Ax:List Typ) (Ao:Int) (k5:List Item → Int → List Int → Bool → Option (Request × Int)) (Ac:List Item) (Ab:Int) (Aa:List Int) (Am:Bool):Option (Request × Int) :=
  bif Am then obind (ix Aa 0) fun Ar=>obind (ix Aa 1) fun Aq=>obind (ix Aa 2) fun Av=>obind (ix Aa 3) fun At=>obind (ix Aa 4) fun Ae=>obind (ix Aa 5) fun As=>obind (ix Aa 6) fun Al=>obind (apnd 56 Ac (([(⟨Ar,Aq,Av,At,Ae,As,Al⟩:Item)]:List Item))) fun Au=>obind (d_spec_l4Line fu x5 (w64 (Ab + 1)) ((⟨#[105,116,101,109]⟩:ByteArray)) 7) fun Ad=>k5 Au (w64 (Ab + 1)) Ad.1 Ad.2 else bif (decide (Ab < (w64 (((x5.length:Int)) - 1)))) then some ((⟨0,(⟨0,0,0,0⟩:Pallet),0,[],[],0,[]⟩:Request),Ab) else obind (ix x5 (w64 (((x5.length:Int)) - 1))) fun Ai=>bif (!(Ai.toList == ((⟨#[]⟩:ByteArray)).toList)) then some ((⟨0,(⟨0,0,0,0⟩:Pallet),0,[],[],0,[]⟩:Request),Ab) else some ((⟨Aw,(⟨Aj,Ah,Ag,Af⟩:Pallet),Ap,Ak,Ax,Ao,Ac⟩:Request),(-1))
def d_spec_ReadOrder_L1 (fu:Nat)  (x5:(List ByteArray)) (Ag:Int) (Ae:Int) (Ac:Int) (Ad:Int) (Aa:Int) (Ah:Int) (Af:List Pair) (Ai:List Typ) (Ab:Int):Nat → List Item → Int → List Int → Bool → Option (Request × Int)
  | 0=>fun _ _ _ _=>none
  | n + 1=>d_spec_ReadOrder_L1_B fu x5 Ag Ae Ac Ad Aa Ah Af Ai Ab (d_spec_ReadOrder_L1 fu x5 Ag Ae Ac Ad Aa Ah Af Ai Ab n)

def d_spec_ReadOrder_L2_B (fu:Nat)  (x5:(List ByteArray)) (Ax:Int) (Ap:Int) (Am:Int) (Ai:Int) (Ag:Int) (Au:Int) (Aq:List Pair) (k4:List Typ → Int → List Int → Bool → Option (Request × Int)) (Af:List Typ) (Ab:Int) (Aa:List Int) (At:Bool):Option (Request × Int) :=
  bif At then obind (ix Aa 0) fun Ar=>obind (ix Aa 1) fun Ah=>obind (ix Aa 2) fun Ao=>obind (ix Aa 3) fun Al=>obind (ix Aa 4) fun Aj=>obind (ix Aa 5) fun Aw=>obind (ix Aa 6) fun Av=>obind (apnd 56 Af (([(⟨Ar,Ah,Ao,Al,Aj,Aw,Av⟩:Typ)]:List Typ))) fun Ak=>obind (d_spec_l4Line fu x5 (w64 (Ab + 1)) ((⟨#[116,121,112,101]⟩:ByteArray)) 7) fun Ae=>k4 Ak (w64 (Ab + 1)) Ae.1 Ae.2 else obind (d_spec_l4Line fu x5 Ab ((⟨#[109,97,115,116,101,114]⟩:ByteArray)) 1) fun Ad=>bif (!Ad.2) then some ((⟨0,(⟨0,0,0,0⟩:Pallet),0,[],[],0,[]⟩:Request),Ab) else obind (ix Ad.1 0) fun As=>obind (d_spec_l4Line fu x5 (w64 (Ab + 1)) ((⟨#[105,116,101,109]⟩:ByteArray)) 7) fun Ac=>d_spec_ReadOrder_L1 fu x5 Ax Ap Am Ai Ag Au Aq Af As fu (([]:List Item)) (w64 (Ab + 1)) Ac.1 Ac.2
def d_spec_ReadOrder_L2 (fu:Nat)  (x5:(List ByteArray)) (Af:Int) (Ad:Int) (Ab:Int) (Ac:Int) (Aa:Int) (Ag:Int) (Ae:List Pair):Nat → List Typ → Int → List Int → Bool → Option (Request × Int)
  | 0=>fun _ _ _ _=>none
  | n + 1=>d_spec_ReadOrder_L2_B fu x5 Af Ad Ab Ac Aa Ag Ae (d_spec_ReadOrder_L2 fu x5 Af Ad Ab Ac Aa Ag Ae n)

def d_spec_ReadOrder_L3_B (fu:Nat)  (x5:(List ByteArray)) (Am:Int) (Al:Int) (Aj:Int) (Ak:Int) (Ag:Int) (Ai:Int) (k3:List Pair → Int → List Int → Bool → Option (Request × Int)) (Ab:List Pair) (Aa:Int) (Ae:List Int) (Ah:Bool):Option (Request × Int) :=
  bif Ah then obind (ix Ae 0) fun Af=>obind (ix Ae 1) fun Ap=>obind (apnd 16 Ab (([(⟨Af,Ap⟩:Pair)]:List Pair))) fun Ao=>obind (d_spec_l4Line fu x5 (w64 (Aa + 1)) ((⟨#[119,105,116,104]⟩:ByteArray)) 2) fun Ad=>k3 Ao (w64 (Aa + 1)) Ad.1 Ad.2 else obind (d_spec_l4Line fu x5 Aa ((⟨#[116,121,112,101]⟩:ByteArray)) 7) fun Ac=>d_spec_ReadOrder_L2 fu x5 Am Al Aj Ak Ag Ai Ab fu (([]:List Typ)) Aa Ac.1 Ac.2
def d_spec_ReadOrder_L3 (fu:Nat)  (x5:(List ByteArray)) (Ae:Int) (Ad:Int) (Ab:Int) (Ac:Int) (Aa:Int) (Af:Int):Nat → List Pair → Int → List Int → Bool → Option (Request × Int)
  | 0=>fun _ _ _ _=>none
  | n + 1=>d_spec_ReadOrder_L3_B fu x5 Ae Ad Ab Ac Aa Af (d_spec_ReadOrder_L3 fu x5 Ae Ad Ab Ac Aa Af n)

def d_spec_ReadOrder_J1 (fu:Nat) (x5:(List ByteArray)) (Ah:Int):Option (Request × Int) :=
  obind (d_spec_l4Line fu x5 1 ((⟨#[112,97,108,108,101,116]⟩:ByteArray)) 4) fun Aa=>bif (!Aa.2) then some ((⟨0,(⟨0,0,0,0⟩:Pallet),0,[],[],0,[]⟩:Request),1) else obind (ix Aa.1 0) fun Ag=>obind (ix Aa.1 1) fun Ae=>obind (ix Aa.1 2) fun Af=>obind (ix Aa.1 3) fun Ad=>obind (d_spec_l4Line fu x5 2 ((⟨#[99,108,97,115,115,101,115]⟩:ByteArray)) 1) fun Ab=>bif (!Ab.2) then some ((⟨0,(⟨0,0,0,0⟩:Pallet),0,[],[],0,[]⟩:Request),2) else obind (ix Ab.1 0) fun Ai=>obind (d_spec_l4Line fu x5 3 ((⟨#[119,105,116,104]⟩:ByteArray)) 2) fun Ac=>d_spec_ReadOrder_L3 fu x5 Ah Ag Ae Af Ad Ai fu (([]:List Pair)) 3 Ac.1 Ac.2

def d_spec_ReadOrder_J2 (fu:Nat) (x5:(List ByteArray))  : Option (Request × Int) :=
  obind (ix x5 0) fun Aa=>bif (Aa.toList == ((⟨#[119,97,121,32,110,101,120,116]⟩:ByteArray)).toList) then d_spec_ReadOrder_J1 fu x5 1 else d_spec_ReadOrder_J1 fu x5 0

def d_spec_ReadOrder (fu:Nat) (Ab:ByteArray):Option (Request × Int) :=
  obind (d_spec_Parts fu Ab 10) fun x5=>bif (decide ((w64 (((x5.length:Int)) - 1)) > 60)) then some ((⟨0,(⟨0,0,0,0⟩:Pallet),0,[],[],0,[]⟩:Request),60) else bif (decide ((w64 (((x5.length:Int)) - 1)) < 1)) then some ((⟨0,(⟨0,0,0,0⟩:Pallet),0,[],[],0,[]⟩:Request),0) else obind (ix x5 0) fun Aa=>bif (!(Aa.toList == ((⟨#[119,97,121,32,102,105,114,115,116]⟩:ByteArray)).toList)) then obind (ix x5 0) fun Ac=>bif (!(Aa.toList == ((⟨#[119,97,121,32,110,101,120,116]⟩:ByteArray)).toList)) then some ((⟨0,(⟨0,0,0,0⟩:Pallet),0,[],[],0,[]⟩:Request),0) else d_spec_ReadOrder_J2 fu x5 else d_spec_ReadOrder_J2 fu x5

def d_spec_l1In (fu:Nat) (x1:Int) (Aa:Int) (Ab:Int):Option (Bool) :=
  bif (decide (x1 ≥ Aa)) then some (decide (x1 ≤ Ab)) else some (false)

def d_spec_l2Side (fu:Nat) (x1:Int):Option (Bool) :=
  obind (d_spec_l1In fu x1 1 2000) fun x2=>some (x2)

def d_spec_PalletOk (fu:Nat) (x1:Pallet):Option (Bool) :=
  obind (d_spec_l2Side fu x1.fW) fun x5=>bif x5 then obind (d_spec_l2Side fu x1.fD) fun Ac=>bif Ac then obind (d_spec_l2Side fu x1.fH) fun Aa=>bif Aa then obind (d_spec_l1In fu x1.fGram 1 100000) fun Ab=>some (Ab) else some (false) else some (false) else some (false)

def d_spec_l2Id (fu:Nat) (x1:Int):Option (Bool) :=
  obind (d_spec_l1In fu x1 0 999) fun x2=>some (x2)

def d_spec_TypeOk (fu:Nat) (x1:Typ):Option (Bool) :=
  obind (d_spec_l2Id fu x1.fId) fun x5=>bif x5 then obind (d_spec_l2Side fu x1.fW) fun Ab=>bif Ab then obind (d_spec_l2Side fu x1.fH) fun Ae=>bif Ae then obind (d_spec_l2Side fu x1.fD) fun Ad=>bif Ad then obind (d_spec_l1In fu x1.fTare 0 100000) fun Ac=>bif Ac then obind (d_spec_l1In fu x1.fGram 1 100000) fun Af=>bif Af then obind (d_spec_l1In fu x1.fCost 0 100000) fun Aa=>some (Aa) else some (false) else some (false) else some (false) else some (false) else some (false) else some (false)

def d_spec_ItemOk (fu:Nat) (x1:Item):Option (Bool) :=
  obind (d_spec_l2Id fu x1.fId) fun x5=>bif x5 then obind (d_spec_l2Side fu x1.fW) fun Ab=>bif Ab then obind (d_spec_l2Side fu x1.fH) fun Ae=>bif Ae then obind (d_spec_l2Side fu x1.fD) fun Ad=>bif Ad then obind (d_spec_l1In fu x1.fGram 1 100000) fun Ac=>bif Ac then obind (d_spec_l1In fu x1.fClass 0 3) fun Af=>bif Af then obind (d_spec_l1In fu x1.fCount 1 6) fun Aa=>some (Aa) else some (false) else some (false) else some (false) else some (false) else some (false) else some (false)

def d_spec_BoundsOk_J1 (fu:Nat) (k4:Int → Option (Bool)) (Aa:Int)  : Option (Bool) :=
  k4 (w64 (Aa + 1))

def d_spec_BoundsOk_L1_B (fu:Nat)  (r1:Request) (k7:Int → Int → Option (Bool)) (Ac:Int) (Aa:Int):Option (Bool) :=
  bif (decide (Aa < ((r1.fItems.length:Int)))) then obind (ix r1.fItems Aa) fun Ab=>obind (d_spec_ItemOk fu Ab) fun Ad=>bif (!Ad) then some (false) else obind (ix r1.fItems Aa) fun Ae=>k7 (w64 (Ac + Ab.fCount)) (w64 (Aa + 1)) else some (decide (Ac ≤ 12))
def d_spec_BoundsOk_L1 (fu:Nat)  (r1:Request):Nat → Int → Int → Option (Bool)
  | 0=>fun _ _=>none
  | n + 1=>d_spec_BoundsOk_L1_B fu r1 (d_spec_BoundsOk_L1 fu r1 n)

def d_spec_BoundsOk_L2_B (fu:Nat)  (r1:Request) (k6:Int → Option (Bool)) (Aa:Int):Option (Bool) :=
  bif (decide (Aa < ((r1.fTypes.length:Int)))) then obind (ix r1.fTypes Aa) fun Ac=>obind (d_spec_TypeOk fu Ac) fun Ab=>bif (!Ab) then some (false) else k6 (w64 (Aa + 1)) else d_spec_BoundsOk_L1 fu r1 fu 0 0
def d_spec_BoundsOk_L2 (fu:Nat)  (r1:Request):Nat → Int → Option (Bool)
  | 0=>fun _=>none
  | n + 1=>d_spec_BoundsOk_L2_B fu r1 (d_spec_BoundsOk_L2 fu r1 n)

def d_spec_BoundsOk_L3_B (fu:Nat)  (r1:Request) (k4:Int → Option (Bool)) (Aa:Int):Option (Bool) :=
  bif (decide (Aa < ((r1.fPairs.length:Int)))) then obind (ix r1.fPairs Aa) fun Ab=>obind (d_spec_l1In fu Ab.fA 0 3) fun Ac=>bif (!Ac) then some (false) else obind (ix r1.fPairs Aa) fun Ae=>obind (d_spec_l1In fu Ab.fB 0 3) fun Ad=>bif (!Ad) then some (false) else d_spec_BoundsOk_J1 fu k4 Aa else d_spec_BoundsOk_L2 fu r1 fu 0
def d_spec_BoundsOk_L3 (fu:Nat)  (r1:Request):Nat → Int → Option (Bool)
  | 0=>fun _=>none
  | n + 1=>d_spec_BoundsOk_L3_B fu r1 (d_spec_BoundsOk_L3 fu r1 n)

def d_spec_BoundsOk_J2 (fu:Nat) (r1:Request)  : Option (Bool) :=
  d_spec_BoundsOk_L3 fu r1 fu 0

def d_spec_BoundsOk (fu:Nat) (r1:Request):Option (Bool) :=
  obind (d_spec_l1In fu r1.fWay 0 1) fun Ac=>bif (!Ac) then some (false) else obind (d_spec_PalletOk fu r1.fPallet) fun Ae=>bif (!Ae) then some (false) else obind (d_spec_l1In fu r1.fClasses 1 4) fun Ad=>bif (!Ad) then some (false) else bif (decide (((r1.fPairs.length:Int)) > 16)) then some (false) else obind (d_spec_l1In fu ((r1.fTypes.length:Int)) 1 5) fun Ab=>bif (!Ab) then some (false) else obind (d_spec_l2Id fu r1.fMaster) fun Aa=>bif (!Aa) then some (false) else bif (decide (((r1.fItems.length:Int)) > 8)) then some (false) else d_spec_BoundsOk_J2 fu r1

def d_spec_MasterOf_L1_B (fu:Nat)  (r1:Request) (k1:Int → Option (Typ × Bool)) (Aa:Int):Option (Typ × Bool) :=
  bif (decide (Aa < ((r1.fTypes.length:Int)))) then obind (ix r1.fTypes Aa) fun Ab=>bif (Ab.fId == r1.fMaster) then obind (ix r1.fTypes Aa) fun Ac=>some (Ab,true) else k1 (w64 (Aa + 1)) else some ((⟨0,0,0,0,0,0,0⟩:Typ),false)
def d_spec_MasterOf_L1 (fu:Nat)  (r1:Request):Nat → Int → Option (Typ × Bool)
  | 0=>fun _=>none
  | n + 1=>d_spec_MasterOf_L1_B fu r1 (d_spec_MasterOf_L1 fu r1 n)

def d_spec_MasterOf (fu:Nat) (r1:Request):Option (Typ × Bool) :=
  d_spec_MasterOf_L1 fu r1 fu 0

def d_spec_l5Names_L1_B (fu:Nat) (k3:Int → Option (Bool)) (r1:Request) (Aa:Int) (k4:Int → Option (Bool)) (Ab:Int):Option (Bool) :=
  bif (decide (Ab < Aa)) then obind (ix r1.fTypes Aa) fun Ad=>obind (ix r1.fTypes Ab) fun Ac=>bif (Ad.fId == Ac.fId) then some (false) else k4 (w64 (Ab + 1)) else k3 (w64 (Aa + 1))
def d_spec_l5Names_L1 (fu:Nat) (k3:Int → Option (Bool)) (r1:Request) (Aa:Int):Nat → Int → Option (Bool)
  | 0=>fun _=>none
  | n + 1=>d_spec_l5Names_L1_B fu k3 r1 Aa (d_spec_l5Names_L1 fu k3 r1 Aa n)

def d_spec_l5Names_L2_B (fu:Nat) (k7:Int → Option (Bool)) (r1:Request) (Ab:Int) (k8:Int → Option (Bool)) (Aa:Int):Option (Bool) :=
  bif (decide (Aa < Ab)) then obind (ix r1.fItems Ab) fun Ac=>obind (ix r1.fItems Aa) fun Ad=>bif (Ac.fId == Ad.fId) then some (false) else k8 (w64 (Aa + 1)) else k7 (w64 (Ab + 1))
def d_spec_l5Names_L2 (fu:Nat) (k7:Int → Option (Bool)) (r1:Request) (Aa:Int):Nat → Int → Option (Bool)
  | 0=>fun _=>none
  | n + 1=>d_spec_l5Names_L2_B fu k7 r1 Aa (d_spec_l5Names_L2 fu k7 r1 Aa n)

def d_spec_l5Names_J1 (fu:Nat) (Aa:Int → Option (Bool)) (Ab:Int)  : Option (Bool) :=
  Aa (w64 (Ab + 1))

def d_spec_l5Names_L3_B (fu:Nat)  (r1:Request) (Ac:Int → Option (Bool)) (Aa:Int):Option (Bool) :=
  bif (decide (Aa < ((r1.fPairs.length:Int)))) then obind (ix r1.fPairs Aa) fun Ab=>bif (decide (Ab.fA ≥ r1.fClasses)) then some (false) else obind (ix r1.fPairs Aa) fun Ae=>bif (decide (Ab.fB ≥ r1.fClasses)) then some (false) else d_spec_l5Names_J1 fu Ac Aa else obind (d_spec_MasterOf fu r1) fun Ad=>some (Ad.2)
def d_spec_l5Names_L3 (fu:Nat)  (r1:Request):Nat → Int → Option (Bool)
  | 0=>fun _=>none
  | n + 1=>d_spec_l5Names_L3_B fu r1 (d_spec_l5Names_L3 fu r1 n)

def d_spec_l5Names_L4_B (fu:Nat)  (r1:Request) (k7:Int → Option (Bool)) (Aa:Int):Option (Bool) :=
  bif (decide (Aa < ((r1.fItems.length:Int)))) then obind (ix r1.fItems Aa) fun Ab=>bif (decide (Ab.fClass ≥ r1.fClasses)) then some (false) else d_spec_l5Names_L2 fu k7 r1 Aa fu 0 else d_spec_l5Names_L3 fu r1 fu 0
def d_spec_l5Names_L4 (fu:Nat)  (r1:Request):Nat → Int → Option (Bool)
  | 0=>fun _=>none
  | n + 1=>d_spec_l5Names_L4_B fu r1 (d_spec_l5Names_L4 fu r1 n)

def d_spec_l5Names_L5_B (fu:Nat)  (r1:Request) (k3:Int → Option (Bool)) (Aa:Int):Option (Bool) :=
  bif (decide (Aa < ((r1.fTypes.length:Int)))) then d_spec_l5Names_L1 fu k3 r1 Aa fu 0 else d_spec_l5Names_L4 fu r1 fu 0
def d_spec_l5Names_L5 (fu:Nat)  (r1:Request):Nat → Int → Option (Bool)
  | 0=>fun _=>none
  | n + 1=>d_spec_l5Names_L5_B fu r1 (d_spec_l5Names_L5 fu r1 n)

def d_spec_l5Names (fu:Nat) (r1:Request):Option (Bool) :=
  d_spec_l5Names_L5 fu r1 fu 0

def d_spec_Beside_J1 (fu:Nat) (k3:Int → Option (Bool)) (Aa:Int)  : Option (Bool) :=
  k3 (w64 (Aa + 1))

def d_spec_Beside_L1_B (fu:Nat)  (Ab:List Pair) (a5:Int) (b6:Int) (k3:Int → Option (Bool)) (Aa:Int):Option (Bool) :=
  bif (decide (Aa < ((Ab.length:Int)))) then obind (ix Ab Aa) fun Ac=>bif (Ac.fA == a5) then obind (ix Ab Aa) fun Ad=>bif (Ac.fB == b6) then some (true) else d_spec_Beside_J1 fu k3 Aa else d_spec_Beside_J1 fu k3 Aa else some (false)
def d_spec_Beside_L1 (fu:Nat)  (Aa:List Pair) (a5:Int) (b6:Int):Nat → Int → Option (Bool)
  | 0=>fun _=>none
  | n + 1=>d_spec_Beside_L1_B fu Aa a5 b6 (d_spec_Beside_L1 fu Aa a5 b6 n)

def d_spec_Beside (fu:Nat) (Aa:List Pair) (a5:Int) (b6:Int):Option (Bool) :=
  d_spec_Beside_L1 fu Aa a5 b6 fu 0

def d_spec_TableOk_J1 (fu:Nat) (Ab:Int → Option (Bool)) (Aa:Int)  : Option (Bool) :=
  Ab (w64 (Aa + 1))

def d_spec_TableOk_L1_B (fu:Nat) (k9:Int → Option (Bool)) (Ac:List Pair) (Af:Int) (Ab:Int) (Ad:Int → Option (Bool)) (Aa:Int):Option (Bool) :=
  bif (decide (Aa < Af)) then bif (Ab == Aa) then obind (d_spec_Beside fu Ac Ab Ab) fun Ae=>bif (!Ae) then some (false) else obind (d_spec_Beside fu Ac Ab Aa) fun Aj=>obind (d_spec_Beside fu Ac Aa Ab) fun Ah=>bif (!(Aj == Ah)) then some (false) else d_spec_TableOk_J1 fu Ad Aa else obind (d_spec_Beside fu Ac Ab Aa) fun Ai=>obind (d_spec_Beside fu Ac Aa Ab) fun Ag=>bif (!(Ai == Ag)) then some (false) else d_spec_TableOk_J1 fu Ad Aa else k9 (w64 (Ab + 1))
def d_spec_TableOk_L1 (fu:Nat) (k9:Int → Option (Bool)) (Aa:List Pair) (Ab:Int) (Ac:Int):Nat → Int → Option (Bool)
  | 0=>fun _=>none
  | n + 1=>d_spec_TableOk_L1_B fu k9 Aa Ab Ac (d_spec_TableOk_L1 fu k9 Aa Ab Ac n)

def d_spec_TableOk_L2_B (fu:Nat)  (Ac:List Pair) (Aa:Int) (k9:Int → Option (Bool)) (Ab:Int):Option (Bool) :=
  bif (decide (Ab < Aa)) then d_spec_TableOk_L1 fu k9 Ac Aa Ab fu 0 else some (true)
def d_spec_TableOk_L2 (fu:Nat)  (Aa:List Pair) (Ab:Int):Nat → Int → Option (Bool)
  | 0=>fun _=>none
  | n + 1=>d_spec_TableOk_L2_B fu Aa Ab (d_spec_TableOk_L2 fu Aa Ab n)

def d_spec_TableOk (fu:Nat) (Ab:List Pair) (Aa:Int):Option (Bool) :=
  obind (d_spec_l1In fu Aa 1 4) fun x6=>bif (!x6) then some (false) else d_spec_TableOk_L2 fu Ab Aa fu 0

def d_spec_l1Places_L1_B (fu:Nat)  (n1:Int) (k1:List Int → Int → Option ((List Int))) (Ab:List Int) (Aa:Int):Option ((List Int)) :=
  bif (decide (Aa < n1)) then obind (apnd 8 Ab (([Aa]:List Int))) fun Ac=>k1 Ac (w64 (Aa + 1)) else some (Ab)
def d_spec_l1Places_L1 (fu:Nat)  (n1:Int):Nat → List Int → Int → Option ((List Int))
  | 0=>fun _ _=>none
  | n + 1=>d_spec_l1Places_L1_B fu n1 (d_spec_l1Places_L1 fu n1 n)

def d_spec_l1Places (fu:Nat) (n1:Int):Option ((List Int)) :=
  d_spec_l1Places_L1 fu n1 fu (([]:List Int)) 0

def d_spec_l1Merge_J1 (fu:Nat) (k3:List Int → Int → Int → Option ((List Int))) (Ag:List Int) (Ai:Bool) (Ad:(List Int)) (Ae:(List Int)) (Ac:List Int) (Aa:Int) (Ab:Int)  : Option ((List Int)) :=
  bif (Ab == ((Ae.length:Int))) then obind (ix Ad Aa) fun At=>obind (apnd 8 Ac (([At]:List Int))) fun Al=>k3 Al (w64 (Aa + 1)) Ab else bif (Aa == ((Ad.length:Int))) then obind (ix Ae Ab) fun Ao=>obind (apnd 8 Ac (([Ao]:List Int))) fun Aq=>k3 Aq Aa (w64 (Ab + 1)) else obind (ix Ae Ab) fun Ah=>obind (ix Ag Ah) fun Aj=>obind (ix Ad Aa) fun Af=>obind (ix Ag Af) fun Ak=>bif (decide (Aj < Ak)) then bif (!Ai) then obind (ix Ae Ab) fun Bd=>obind (apnd 8 Ac (([Ah]:List Int))) fun Ar=>k3 Ar Aa (w64 (Ab + 1)) else obind (ix Ae Ab) fun Be=>obind (ix Ag Ah) fun Ax=>obind (ix Ad Aa) fun Bg=>obind (ix Ag Af) fun Bf=>bif (decide (Aj > Ak)) then bif Ai then obind (ix Ae Ab) fun Az=>obind (apnd 8 Ac (([Ah]:List Int))) fun Ap=>k3 Ap Aa (w64 (Ab + 1)) else obind (ix Ad Aa) fun Bi=>obind (apnd 8 Ac (([Af]:List Int))) fun Av=>k3 Av (w64 (Aa + 1)) Ab else obind (ix Ad Aa) fun Bh=>obind (apnd 8 Ac (([Af]:List Int))) fun Am=>k3 Am (w64 (Aa + 1)) Ab else obind (ix Ae Ab) fun Bk=>obind (ix Ag Ah) fun Bj=>obind (ix Ad Aa) fun Ba=>obind (ix Ag Af) fun Bb=>bif (decide (Aj > Ak)) then bif Ai then obind (ix Ae Ab) fun Bl=>obind (apnd 8 Ac (([Ah]:List Int))) fun Au=>k3 Au Aa (w64 (Ab + 1)) else obind (ix Ad Aa) fun Bc=>obind (apnd 8 Ac (([Af]:List Int))) fun Aw=>k3 Aw (w64 (Aa + 1)) Ab else obind (ix Ad Aa) fun Ay=>obind (apnd 8 Ac (([Af]:List Int))) fun As=>k3 As (w64 (Aa + 1)) Ab

def d_spec_l1Merge_L1_B (fu:Nat)  (Af:List Int) (Ag:Bool) (Ae:(List Int)) (Aa:(List Int)) (k3:List Int → Int → Int → Option ((List Int))) (Ad:List Int) (Ac:Int) (Ab:Int):Option ((List Int)) :=
  bif (decide (Ac < ((Ae.length:Int)))) then d_spec_l1Merge_J1 fu k3 Af Ag Ae Aa Ad Ac Ab else bif (decide (Ab < ((Aa.length:Int)))) then d_spec_l1Merge_J1 fu k3 Af Ag Ae Aa Ad Ac Ab else some (Ad)
def d_spec_l1Merge_L1 (fu:Nat)  (Ab:List Int) (Aa:Bool) (Ad:(List Int)) (Ac:(List Int)):Nat → List Int → Int → Int → Option ((List Int))
  | 0=>fun _ _ _=>none
  | n + 1=>d_spec_l1Merge_L1_B fu Ab Aa Ad Ac (d_spec_l1Merge_L1 fu Ab Aa Ad Ac n)

def d_spec_l1Merge_RB (fu:Nat) (self:List Int → List Int → Bool → Option ((List Int))) (Ab:List Int) (Aa:List Int) (Ac:Bool):Option ((List Int)) :=
  bif (decide (((Aa.length:Int)) < 2)) then obind (apnd 8 (([]:List Int)) Aa) fun Ah=>some (Ah) else obind (sls Aa 0 (w64 (Int.tdiv ((Aa.length:Int)) 2))) fun Af=>obind (self Ab Af Ac) fun Ag=>obind (sls Aa (w64 (Int.tdiv ((Aa.length:Int)) 2)) (Aa.length:Int)) fun Ae=>obind (self Ab Ae Ac) fun Ad=>d_spec_l1Merge_L1 fu Ab Ac Ag Ad fu (([]:List Int)) 0 0
def d_spec_l1Merge_R (fu:Nat):Nat → List Int → List Int → Bool → Option ((List Int))
  | 0=>fun _ _ _=>none
  | n + 1=>d_spec_l1Merge_RB fu (d_spec_l1Merge_R fu n)
def d_spec_l1Merge (fu:Nat) (Ab:List Int) (Aa:List Int) (Ac:Bool):Option ((List Int)):=d_spec_l1Merge_R fu fu Ab Aa Ac

def d_spec_SortUp (fu:Nat) (Aa:List Int):Option ((List Int)) :=
  obind (d_spec_l1Places fu ((Aa.length:Int))) fun x5=>obind (d_spec_l1Merge fu Aa x5 false) fun Ab=>some (Ab)

def d_spec_l5Sides (fu:Nat) (Aa:Int) (h2:Int) (d3:Int):Option ((List Int)) :=
  obind (d_spec_SortUp fu (([Aa,h2,d3]:List Int))) fun x9=>obind (ix x9 0) fun Ab=>obind (ix (([Aa,h2,d3]:List Int)) Ab) fun Ad=>obind (ix x9 1) fun Ag=>obind (ix (([Aa,h2,d3]:List Int)) Ag) fun Ac=>obind (ix x9 2) fun Ae=>obind (ix (([Aa,h2,d3]:List Int)) Ae) fun Af=>some (([Ad,Ac,Af]:List Int))

def d_spec_Fits (fu:Nat) (x1:Item) (t2:Typ):Option (Bool) :=
  obind (d_spec_l5Sides fu x1.fW x1.fH x1.fD) fun Ab=>obind (d_spec_l5Sides fu t2.fW t2.fH t2.fD) fun Aa=>obind (ix Ab 0) fun Af=>obind (ix Aa 0) fun Ag=>bif (decide (Af ≤ Ag)) then obind (ix Ab 1) fun Ah=>obind (ix Aa 1) fun Ad=>bif (decide (Ah ≤ Ad)) then obind (ix Ab 2) fun Ae=>obind (ix Aa 2) fun Ac=>bif (decide (Ae ≤ Ac)) then some (decide (x1.fGram ≤ t2.fGram)) else some (false) else some (false) else some (false)

def d_spec_Class_J1 (fu:Nat) (k4:Int → Option (Int)) (Aa:Int)  : Option (Int) :=
  k4 (w64 (Aa + 1))

def d_spec_Class_L1_B (fu:Nat)  (r1:Request) (k4:Int → Option (Int)) (Ab:Int):Option (Int) :=
  bif (decide (Ab < ((r1.fTypes.length:Int)))) then obind (ix r1.fTypes Ab) fun Aa=>bif (decide (Aa.fW > r1.fPallet.fW)) then some (6) else bif (decide (Aa.fD > r1.fPallet.fD)) then some (6) else bif (decide (Aa.fH > r1.fPallet.fH)) then some (6) else bif (decide ((w64 (Aa.fTare + Aa.fGram)) > r1.fPallet.fGram)) then some (6) else d_spec_Class_J1 fu k4 Ab else some (0)
def d_spec_Class_L1 (fu:Nat)  (r1:Request):Nat → Int → Option (Int)
  | 0=>fun _=>none
  | n + 1=>d_spec_Class_L1_B fu r1 (d_spec_Class_L1 fu r1 n)

def d_spec_Class_L2_B (fu:Nat)  (r1:Request) (Ab:Typ × Bool) (k1:Int → Option (Int)) (Aa:Int):Option (Int) :=
  bif (decide (Aa < ((r1.fItems.length:Int)))) then obind (ix r1.fItems Aa) fun Ad=>obind (d_spec_Fits fu Ad Ab.1) fun Ac=>bif (!Ac) then some (5) else k1 (w64 (Aa + 1)) else d_spec_Class_L1 fu r1 fu 0
def d_spec_Class_L2 (fu:Nat)  (r1:Request) (Aa:Typ × Bool):Nat → Int → Option (Int)
  | 0=>fun _=>none
  | n + 1=>d_spec_Class_L2_B fu r1 Aa (d_spec_Class_L2 fu r1 Aa n)

def d_spec_Class (fu:Nat) (r1:Request):Option (Int) :=
  obind (d_spec_BoundsOk fu r1) fun Ad=>bif (!Ad) then some (2) else obind (d_spec_l5Names fu r1) fun Aa=>bif (!Aa) then some (3) else obind (d_spec_TableOk fu r1.fPairs r1.fClasses) fun Ab=>bif (!Ab) then some (4) else obind (d_spec_MasterOf fu r1) fun Ac=>d_spec_Class_L2 fu r1 Ac fu 0

def d_spec_ClassOf (fu:Nat) (Ab:ByteArray):Option (Int) :=
  obind (d_spec_ReadOrder fu Ab) fun x2=>bif (decide (x2.2 ≥ 0)) then some (1) else obind (d_spec_Class fu x2.1) fun Aa=>some (Aa)

def d_spec_Present_J1 (fu:Nat) (Ac:List Int → Int → Option ((List Int))) (Ab:Int) (Aa:List Int):Option ((List Int)) :=
  Ac Aa (w64 (Ab + 1))

def d_spec_Present_J2 (fu:Nat) (Ab:Bool → Int → Option ((List Int))) (Aa:Int) (Ac:Bool):Option ((List Int)) :=
  Ab Ac (w64 (Aa + 1))

def d_spec_Present_L1_B (fu:Nat) (Ae:List Int → Int → Option ((List Int))) (r1:Request) (Ad:List Int) (Ab:Int) (Ac:Bool → Int → Option ((List Int))) (Af:Bool) (Aa:Int):Option ((List Int)) :=
  bif (decide (Aa < ((r1.fItems.length:Int)))) then bif Af then d_spec_Present_J2 fu Ac Aa true else obind (ix r1.fItems Aa) fun Ag=>d_spec_Present_J2 fu Ac Aa (Ag.fClass == Ab) else bif Af then obind (apnd 8 Ad (([Ab]:List Int))) fun Ah=>d_spec_Present_J1 fu Ae Ab Ah else d_spec_Present_J1 fu Ae Ab Ad
def d_spec_Present_L1 (fu:Nat) (Ac:List Int → Int → Option ((List Int))) (r1:Request) (Aa:List Int) (Ab:Int):Nat → Bool → Int → Option ((List Int))
  | 0=>fun _ _=>none
  | n + 1=>d_spec_Present_L1_B fu Ac r1 Aa Ab (d_spec_Present_L1 fu Ac r1 Aa Ab n)

def d_spec_Present_L2_B (fu:Nat)  (r1:Request) (Ac:List Int → Int → Option ((List Int))) (Aa:List Int) (Ab:Int):Option ((List Int)) :=
  bif (decide (Ab < 4)) then d_spec_Present_L1 fu Ac r1 Aa Ab fu false 0 else some (Aa)
def d_spec_Present_L2 (fu:Nat)  (r1:Request):Nat → List Int → Int → Option ((List Int))
  | 0=>fun _ _=>none
  | n + 1=>d_spec_Present_L2_B fu r1 (d_spec_Present_L2 fu r1 n)

def d_spec_Present (fu:Nat) (r1:Request):Option ((List Int)) :=
  obind (d_spec_Class fu r1) fun Aa=>bif (Aa != 0) then some (([]:List Int)) else d_spec_Present_L2 fu r1 fu (([]:List Int)) 0

def d_spec_l1Has_L1_B (fu:Nat)  (Ab:List Int) (x5:Int) (k1:Int → Option (Bool)) (Aa:Int):Option (Bool) :=
  bif (decide (Aa < ((Ab.length:Int)))) then obind (ix Ab Aa) fun Ac=>bif (Ac == x5) then some (true) else k1 (w64 (Aa + 1)) else some (false)
def d_spec_l1Has_L1 (fu:Nat)  (Aa:List Int) (x5:Int):Nat → Int → Option (Bool)
  | 0=>fun _=>none
  | n + 1=>d_spec_l1Has_L1_B fu Aa x5 (d_spec_l1Has_L1 fu Aa x5 n)

def d_spec_l1Has (fu:Nat) (Aa:List Int) (x5:Int):Option (Bool) :=
  d_spec_l1Has_L1 fu Aa x5 fu 0

def d_spec_l3Joins_J1 (fu:Nat) (k3:Int → Option (Bool)) (Aa:Int)  : Option (Bool) :=
  k3 (w64 (Aa + 1))

def d_spec_l3Joins_L1_B (fu:Nat)  (Ad:List Pair) (Ab:List Int) (Ae:Int) (k3:Int → Option (Bool)) (Aa:Int):Option (Bool) :=
  bif (decide (Aa < ((Ab.length:Int)))) then obind (ix Ab Aa) fun Ac=>obind (d_spec_Beside fu Ad Ac Ae) fun Ag=>bif (!Ag) then some (false) else obind (ix Ab Aa) fun Ah=>obind (d_spec_Beside fu Ad Ae Ac) fun Af=>bif (!Af) then some (false) else d_spec_l3Joins_J1 fu k3 Aa else some (true)
def d_spec_l3Joins_L1 (fu:Nat)  (Aa:List Pair) (Ac:List Int) (Ab:Int):Nat → Int → Option (Bool)
  | 0=>fun _=>none
  | n + 1=>d_spec_l3Joins_L1_B fu Aa Ac Ab (d_spec_l3Joins_L1 fu Aa Ac Ab n)

def d_spec_l3Joins (fu:Nat) (Aa:List Pair) (Ac:List Int) (Ab:Int):Option (Bool) :=
  d_spec_l3Joins_L1 fu Aa Ac Ab fu 0

def d_spec_Groups_J1 (fu:Nat) (Ab:List (List Int) → Int → Option ((List (List Int)))) (Ac:Int) (Aa:List (List Int)):Option ((List (List Int))) :=
  Ab Aa (w64 (Ac + 1))

def d_spec_Groups_J2 (fu:Nat) (Ac:Int → Int → Option ((List (List Int)))) (Ab:Int) (Aa:Int):Option ((List (List Int))) :=
  Ac Aa (w64 (Ab - 1))

def d_spec_Groups_L1_B (fu:Nat) (Af:List (List Int) → Int → Option ((List (List Int)))) (Ah:List Pair) (Ab:List (List Int)) (Ad:Int) (Ae:Int → Int → Option ((List (List Int)))) (Ac:Int) (Aa:Int):Option ((List (List Int))) :=
  bif (decide (Aa ≥ 0)) then obind (ix Ab Aa) fun Aj=>obind (d_spec_l3Joins fu Ah Aj Ad) fun Al=>bif Al then d_spec_Groups_J2 fu Ae Aa Aa else d_spec_Groups_J2 fu Ae Aa Ac else bif (decide (Ac < 0)) then obind (apnd 24 Ab [([Ad]:List Int)]) fun Ag=>d_spec_Groups_J1 fu Af Ad Ag else obind (ix Ab Ac) fun Ai=>obind (apnd 8 Ai (([Ad]:List Int))) fun Ak=>obind (ix Ab Ac) fun Am=>d_spec_Groups_J1 fu Af Ad (setx Ab Ac Ak)
def d_spec_Groups_L1 (fu:Nat) (Ac:List (List Int) → Int → Option ((List (List Int)))) (Aa:List Pair) (Ab:List (List Int)) (Ad:Int):Nat → Int → Int → Option ((List (List Int)))
  | 0=>fun _ _=>none
  | n + 1=>d_spec_Groups_L1_B fu Ac Aa Ab Ad (d_spec_Groups_L1 fu Ac Aa Ab Ad n)

def d_spec_Groups_L2_B (fu:Nat)  (Ae:List Pair) (Af:List Int) (Ac:List (List Int) → Int → Option ((List (List Int)))) (Aa:List (List Int)) (Ab:Int):Option ((List (List Int))) :=
  bif (decide (Ab < 4)) then obind (d_spec_l1Has fu Af Ab) fun Ad=>bif (!Ad) then d_spec_Groups_J1 fu Ac Ab Aa else d_spec_Groups_L1 fu Ac Ae Aa Ab fu ((-1)) (w64 (((Aa.length:Int)) - 1)) else some (Aa)
def d_spec_Groups_L2 (fu:Nat)  (Aa:List Pair) (Ab:List Int):Nat → List (List Int) → Int → Option ((List (List Int)))
  | 0=>fun _ _=>none
  | n + 1=>d_spec_Groups_L2_B fu Aa Ab (d_spec_Groups_L2 fu Aa Ab n)

def d_spec_Groups (fu:Nat) (Aa:List Pair) (Ab:List Int):Option ((List (List Int))) :=
  d_spec_Groups_L2 fu Aa Ab fu (([]:List (List Int))) 0

def d_spec_GroupsOf (fu:Nat) (r1:Request):Option ((List (List Int))) :=
  obind (d_spec_Present fu r1) fun Aa=>obind (d_spec_Groups fu r1.fPairs Aa) fun Ab=>some (Ab)

def d_spec_l6Units_L1_B (fu:Nat) (k3:List Int → Int → Option ((List Int))) (r1:Request) (Aa:Int) (k4:List Int → Int → Option ((List Int))) (Ac:List Int) (Ab:Int):Option ((List Int)) :=
  obind (ix r1.fItems Aa) fun Ae=>bif (decide (Ab < Ae.fCount)) then obind (apnd 8 Ac (([Aa]:List Int))) fun Ad=>k4 Ad (w64 (Ab + 1)) else k3 Ac (w64 (Aa + 1))
def d_spec_l6Units_L1 (fu:Nat) (k3:List Int → Int → Option ((List Int))) (r1:Request) (Aa:Int):Nat → List Int → Int → Option ((List Int))
  | 0=>fun _ _=>none
  | n + 1=>d_spec_l6Units_L1_B fu k3 r1 Aa (d_spec_l6Units_L1 fu k3 r1 Aa n)

def d_spec_l6Units_L2_B (fu:Nat)  (r1:Request) (k3:List Int → Int → Option ((List Int))) (Ab:List Int) (Aa:Int):Option ((List Int)) :=
  bif (decide (Aa < ((r1.fItems.length:Int)))) then d_spec_l6Units_L1 fu k3 r1 Aa fu Ab 0 else some (Ab)
def d_spec_l6Units_L2 (fu:Nat)  (r1:Request):Nat → List Int → Int → Option ((List Int))
  | 0=>fun _ _=>none
  | n + 1=>d_spec_l6Units_L2_B fu r1 (d_spec_l6Units_L2 fu r1 n)

def d_spec_l6Units (fu:Nat) (r1:Request):Option ((List Int)) :=
  d_spec_l6Units_L2 fu r1 fu (([]:List Int)) 0

def d_spec_UnitsOf_J1 (fu:Nat) (k3:List Int → Int → Option ((List Int))) (Ab:Int) (Aa:List Int):Option ((List Int)) :=
  k3 Aa (w64 (Ab + 1))

def d_spec_UnitsOf_L1_B (fu:Nat)  (r1:Request) (Ad:Int) (Ai:(List (List Int))) (Ac:(List Int)) (k3:List Int → Int → Option ((List Int))) (Ab:List Int) (Aa:Int):Option ((List Int)) :=
  bif (decide (Aa < ((Ac.length:Int)))) then obind (ix Ai Ad) fun Af=>obind (ix Ac Aa) fun Ag=>obind (ix r1.fItems Ag) fun Ah=>obind (d_spec_l1Has fu Af Ah.fClass) fun Aj=>bif Aj then obind (apnd 8 Ab (([Aa]:List Int))) fun Ae=>d_spec_UnitsOf_J1 fu k3 Aa Ae else d_spec_UnitsOf_J1 fu k3 Aa Ab else some (Ab)
def d_spec_UnitsOf_L1 (fu:Nat)  (r1:Request) (Ac:Int) (Ab:(List (List Int))) (Aa:(List Int)):Nat → List Int → Int → Option ((List Int))
  | 0=>fun _ _=>none
  | n + 1=>d_spec_UnitsOf_L1_B fu r1 Ac Ab Aa (d_spec_UnitsOf_L1 fu r1 Ac Ab Aa n)

def d_spec_UnitsOf (fu:Nat) (r1:Request) (Ab:Int):Option ((List Int)) :=
  obind (d_spec_GroupsOf fu r1) fun Aa=>obind (d_spec_l1In fu Ab 0 (w64 (((Aa.length:Int)) - 1))) fun Ad=>bif (!Ad) then some (([]:List Int)) else obind (d_spec_l6Units fu r1) fun Ac=>d_spec_UnitsOf_L1 fu r1 Ab Aa Ac fu (([]:List Int)) 0

def d_spec_l7Known_J1 (fu:Nat) (k3:List Int → Int → Option ((List Int))) (Aa:Int) (Ab:List Int):Option ((List Int)) :=
  k3 Ab (w64 (Aa + 1))

def d_spec_l7Known_L1_B (fu:Nat)  (Ae:List Int) (Ab:List Int) (k3:List Int → Int → Option ((List Int))) (Ac:List Int) (Aa:Int):Option ((List Int)) :=
  bif (decide (Aa < ((Ab.length:Int)))) then obind (ix Ab Aa) fun Ad=>obind (d_spec_l1In fu Ad 0 (w64 (((Ae.length:Int)) - 1))) fun Af=>bif Af then obind (ix Ab Aa) fun Ah=>obind (apnd 8 Ac (([Ad]:List Int))) fun Ag=>d_spec_l7Known_J1 fu k3 Aa Ag else d_spec_l7Known_J1 fu k3 Aa Ac else some (Ac)
def d_spec_l7Known_L1 (fu:Nat)  (Ab:List Int) (Aa:List Int):Nat → List Int → Int → Option ((List Int))
  | 0=>fun _ _=>none
  | n + 1=>d_spec_l7Known_L1_B fu Ab Aa (d_spec_l7Known_L1 fu Ab Aa n)

def d_spec_l7Known (fu:Nat) (Ab:List Int) (Aa:List Int):Option ((List Int)) :=
  d_spec_l7Known_L1 fu Ab Aa fu (([]:List Int)) 0

def d_spec_l6Item (fu:Nat) (r1:Request) (Aa:List Int) (u9:Int):Option (Item × Bool) :=
  obind (d_spec_l1In fu u9 0 (w64 (((Aa.length:Int)) - 1))) fun Ac=>bif (!Ac) then some ((⟨0,0,0,0,0,0,0⟩:Item),false) else obind (ix Aa u9) fun Ab=>obind (ix r1.fItems Ab) fun Ad=>some (Ad,true)

def d_spec_Volume_J1 (fu:Nat) (Aa:Int) (h2:Int) (d3:Int)  : Option (Int) :=
  some (w64 ((w64 (Aa * h2)) * d3))

def d_spec_Volume (fu:Nat) (Aa:Int) (h2:Int) (d3:Int):Option (Int) :=
  obind (d_spec_l1In fu Aa 0 2000) fun Ad=>bif (!Ad) then some (0) else obind (d_spec_l1In fu h2 0 2000) fun Ab=>bif (!Ab) then some (0) else obind (d_spec_l1In fu d3 0 2000) fun Ac=>bif (!Ac) then some (0) else d_spec_Volume_J1 fu Aa h2 d3

def d_spec_l7Of_J1 (fu:Nat) (k7:L7 → Int → Option (L7)) (Aa:Int) (Ab:L7):Option (L7) :=
  k7 Ab (w64 (Aa + 1))

def d_spec_l7Of_J2 (fu:Nat) (k7:L7 → Int → Option (L7)) (Ab:L7) (Ad:Int) (Aa:Item):Option (L7) :=
  obind (d_spec_Volume fu Aa.fW Aa.fH Aa.fD) fun Ac=>d_spec_l7Of_J1 fu k7 Ad ((⟨w64 (Ab.fvol + Ac),w64 (Ab.fgram + Aa.fGram)⟩:L7))

def d_spec_l7Of_L1_B (fu:Nat)  (r1:Request) (Ae:List Int) (Ab:List Int) (k7:L7 → Int → Option (L7)) (Ac:L7) (Aa:Int):Option (L7) :=
  bif (decide (Aa < ((Ab.length:Int)))) then obind (ix Ab Aa) fun Ad=>obind (d_spec_l6Item fu r1 Ae Ad) fun Af=>d_spec_l7Of_J2 fu k7 Ac Aa Af.1 else some (Ac)
def d_spec_l7Of_L1 (fu:Nat)  (r1:Request) (Aa:List Int) (Ab:List Int):Nat → L7 → Int → Option (L7)
  | 0=>fun _ _=>none
  | n + 1=>d_spec_l7Of_L1_B fu r1 Aa Ab (d_spec_l7Of_L1 fu r1 Aa Ab n)

def d_spec_l7Of (fu:Nat) (r1:Request) (Aa:List Int) (Ab:List Int):Option (L7) :=
  d_spec_l7Of_L1 fu r1 Aa Ab fu ((⟨0,0⟩:L7)) 0

def d_spec_l7Room_J1 (fu:Nat) (m9:Typ) (Aa:L7):Option (Bool) :=
  obind (d_spec_Volume fu m9.fW m9.fH m9.fD) fun Ab=>bif (decide (Aa.fvol ≤ Ab)) then some (decide (Aa.fgram ≤ m9.fGram)) else some (false)

def d_spec_l7Room (fu:Nat) (r1:Request) (Ac:List Int) (m9:Typ) (Ab:List Int) (Ae:Int):Option (Bool) :=
  obind (apnd 8 (([]:List Int)) Ab) fun Ad=>obind (apnd 8 Ad (([Ae]:List Int))) fun Aa=>obind (d_spec_l7Of fu r1 Ac Aa) fun Af=>d_spec_l7Room_J1 fu m9 Af

def d_spec_l7Next_J1 (fu:Nat) (k3:List (List Int) → Int → Option ((List (List Int)))) (Ab:Int) (Aa:List (List Int)):Option ((List (List Int))) :=
  k3 Aa (w64 (Ab + 1))

def d_spec_l7Next_L1_B (fu:Nat)  (r1:Request) (Ac:List Int) (Aj:Typ × Bool) (Af:(List Int)) (k3:List (List Int) → Int → Option ((List (List Int)))) (Aa:List (List Int)) (Ab:Int):Option ((List (List Int))) :=
  bif (decide (Ab < ((Ac.length:Int)))) then bif (decide (((Aa.length:Int)) > 0)) then obind (ix Aa (w64 (((Aa.length:Int)) - 1))) fun Ae=>obind (ix Ac Ab) fun Ad=>obind (d_spec_l7Room fu r1 Af Aj.1 Ae Ad) fun Ah=>bif Ah then obind (ix Aa (w64 (((Aa.length:Int)) - 1))) fun Am=>obind (ix Ac Ab) fun Ao=>obind (apnd 8 Ae (([Ad]:List Int))) fun Ak=>obind (ix Aa (w64 (((Aa.length:Int)) - 1))) fun Aq=>d_spec_l7Next_J1 fu k3 Ab (setx Aa (w64 (((Aa.length:Int)) - 1)) Ak) else obind (ix Ac Ab) fun Ap=>obind (apnd 24 Aa [([Ad]:List Int)]) fun Ai=>d_spec_l7Next_J1 fu k3 Ab Ai else obind (ix Ac Ab) fun Al=>obind (apnd 24 Aa [([Al]:List Int)]) fun Ag=>d_spec_l7Next_J1 fu k3 Ab Ag else some (Aa)
def d_spec_l7Next_L1 (fu:Nat)  (r1:Request) (Aa:List Int) (Ab:Typ × Bool) (Ac:(List Int)):Nat → List (List Int) → Int → Option ((List (List Int)))
  | 0=>fun _ _=>none
  | n + 1=>d_spec_l7Next_L1_B fu r1 Aa Ab Ac (d_spec_l7Next_L1 fu r1 Aa Ab Ac n)

def d_spec_l7Next (fu:Nat) (r1:Request) (Aa:List Int):Option ((List (List Int))) :=
  obind (d_spec_MasterOf fu r1) fun Ab=>obind (d_spec_l6Units fu r1) fun Ac=>d_spec_l7Next_L1 fu r1 Aa Ab Ac fu (([]:List (List Int))) 0

def d_spec_NextFit (fu:Nat) (r1:Request) (Aa:List Int):Option ((List (List Int))) :=
  obind (d_spec_Class fu r1) fun Ac=>bif (Ac != 0) then some (([]:List (List Int))) else obind (d_spec_l6Units fu r1) fun Ad=>obind (d_spec_l7Known fu Ad Aa) fun Ae=>obind (d_spec_l7Next fu r1 Ae) fun Ab=>some (Ab)

def d_spec_SortDown (fu:Nat) (Aa:List Int):Option ((List Int)) :=
  obind (d_spec_l1Places fu ((Aa.length:Int))) fun x5=>obind (d_spec_l1Merge fu Aa x5 true) fun Ab=>some (Ab)

def d_spec_l7First_J1 (fu:Nat) (Aa:List (List Int) → Int → Option ((List (List Int)))) (Ab:Int) (Ac:List (List Int)):Option ((List (List Int))) :=
  Aa Ac (w64 (Ab + 1))

def d_spec_l7First_J2 (fu:Nat) (Aa:Int → Int → Option ((List (List Int)))) (Ac:Int) (Ab:Int):Option ((List (List Int))) :=
  Aa Ab (w64 (Ac - 1))

def d_spec_l7First_L1_B (fu:Nat) (Af:List (List Int) → Int → Option ((List (List Int)))) (r1:Request) (Al:Typ × Bool) (Ai:(List Int)) (Ac:List (List Int)) (Ae:Int) (Ad:Int) (Ag:Int → Int → Option ((List (List Int)))) (Ab:Int) (Aa:Int):Option ((List (List Int))) :=
  bif (decide (Aa ≥ 0)) then obind (ix Ac Aa) fun Ah=>obind (d_spec_l7Room fu r1 Ai Al.1 Ah Ad) fun Ao=>bif Ao then d_spec_l7First_J2 fu Ag Aa Aa else d_spec_l7First_J2 fu Ag Aa Ab else bif (decide (Ab < 0)) then obind (apnd 24 Ac [([Ad]:List Int)]) fun Aj=>d_spec_l7First_J1 fu Af Ae Aj else obind (ix Ac Ab) fun Am=>obind (apnd 8 Am (([Ad]:List Int))) fun Ak=>obind (ix Ac Ab) fun Ap=>d_spec_l7First_J1 fu Af Ae (setx Ac Ab Ak)
def d_spec_l7First_L1 (fu:Nat) (Ac:List (List Int) → Int → Option ((List (List Int)))) (r1:Request) (Ad:Typ × Bool) (Ab:(List Int)) (Ae:List (List Int)) (Aa:Int) (Af:Int):Nat → Int → Int → Option ((List (List Int)))
  | 0=>fun _ _=>none
  | n + 1=>d_spec_l7First_L1_B fu Ac r1 Ad Ab Ae Aa Af (d_spec_l7First_L1 fu Ac r1 Ad Ab Ae Aa Af n)

def d_spec_l7First_L2_B (fu:Nat)  (r1:Request) (Ad:List Int) (Ah:Typ × Bool) (Ae:(List Int)) (Ac:(List Int)) (Ag:List (List Int) → Int → Option ((List (List Int)))) (Ab:List (List Int)) (Aa:Int):Option ((List (List Int))) :=
  bif (decide (Aa < ((Ac.length:Int)))) then obind (ix Ac Aa) fun Af=>obind (ix Ad Af) fun Ai=>d_spec_l7First_L1 fu Ag r1 Ah Ae Ab Aa Ai fu ((-1)) (w64 (((Ab.length:Int)) - 1)) else some (Ab)
def d_spec_l7First_L2 (fu:Nat)  (r1:Request) (Ab:List Int) (Ac:Typ × Bool) (Ad:(List Int)) (Aa:(List Int)):Nat → List (List Int) → Int → Option ((List (List Int)))
  | 0=>fun _ _=>none
  | n + 1=>d_spec_l7First_L2_B fu r1 Ab Ac Ad Aa (d_spec_l7First_L2 fu r1 Ab Ac Ad Aa n)

def d_spec_l7First_L3_B (fu:Nat)  (r1:Request) (Ab:List Int) (Ag:Typ × Bool) (Ac:(List Int)) (k1:List Int → Int → Option ((List (List Int)))) (Ad:List Int) (Aa:Int):Option ((List (List Int))) :=
  bif (decide (Aa < ((Ab.length:Int)))) then obind (sls Ab Aa (w64 (Aa + 1))) fun Ai=>obind (d_spec_l7Of fu r1 Ac Ai) fun Ae=>obind (apnd 8 Ad (([Ae.fvol]:List Int))) fun Ah=>k1 Ah (w64 (Aa + 1)) else obind (d_spec_SortDown fu Ad) fun Af=>d_spec_l7First_L2 fu r1 Ab Ag Ac Af fu (([]:List (List Int))) 0
def d_spec_l7First_L3 (fu:Nat)  (r1:Request) (Aa:List Int) (Ab:Typ × Bool) (Ac:(List Int)):Nat → List Int → Int → Option ((List (List Int)))
  | 0=>fun _ _=>none
  | n + 1=>d_spec_l7First_L3_B fu r1 Aa Ab Ac (d_spec_l7First_L3 fu r1 Aa Ab Ac n)

def d_spec_l7First (fu:Nat) (r1:Request) (Aa:List Int):Option ((List (List Int))) :=
  obind (d_spec_MasterOf fu r1) fun Ab=>obind (d_spec_l6Units fu r1) fun Ac=>d_spec_l7First_L3 fu r1 Aa Ab Ac fu (([]:List Int)) 0

def d_spec_FirstFit (fu:Nat) (r1:Request) (Aa:List Int):Option ((List (List Int))) :=
  obind (d_spec_Class fu r1) fun Ac=>bif (Ac != 0) then some (([]:List (List Int))) else obind (d_spec_l6Units fu r1) fun Ad=>obind (d_spec_l7Known fu Ad Aa) fun Ae=>obind (d_spec_l7First fu r1 Ae) fun Ab=>some (Ab)

def d_spec_PackWay (fu:Nat) (r1:Request) (Aa:List Int):Option ((List (List Int))) :=
  bif (r1.fWay == 1) then obind (d_spec_NextFit fu r1 Aa) fun Ab=>some (Ab) else obind (d_spec_FirstFit fu r1 Aa) fun Ac=>some (Ac)

def d_spec_Holds_J1 (fu:Nat) (r1:Request) (Ad:List Int) (t9:Typ) (Ac:(List Int))  : Option (Bool) :=
  obind (d_spec_l7Of fu r1 Ac Ad) fun Aa=>obind (d_spec_Volume fu t9.fW t9.fH t9.fD) fun Ab=>bif (decide (Aa.fvol ≤ Ab)) then some (decide (Aa.fgram ≤ t9.fGram)) else some (false)

def d_spec_Holds_J2 (fu:Nat) (Aa:Int → Option (Bool)) (Ab:Int)  : Option (Bool) :=
  Aa (w64 (Ab + 1))

def d_spec_Holds_J3 (fu:Nat) (Ad:Int → Option (Bool)) (t9:Typ) (Aa:Int) (Ac:Item) (Ae:Bool):Option (Bool) :=
  bif (!Ae) then some (false) else obind (d_spec_Fits fu Ac t9) fun Ab=>bif (!Ab) then some (false) else d_spec_Holds_J2 fu Ad Aa

def d_spec_Holds_L1_B (fu:Nat)  (r1:Request) (Ab:List Int) (t9:Typ) (Ac:(List Int)) (Af:Int → Option (Bool)) (Aa:Int):Option (Bool) :=
  bif (decide (Aa < ((Ab.length:Int)))) then obind (ix Ab Aa) fun Ae=>obind (d_spec_l6Item fu r1 Ac Ae) fun Ad=>d_spec_Holds_J3 fu Af t9 Aa Ad.1 Ad.2 else d_spec_Holds_J1 fu r1 Ab t9 Ac
def d_spec_Holds_L1 (fu:Nat)  (r1:Request) (Ab:List Int) (t9:Typ) (Aa:(List Int)):Nat → Int → Option (Bool)
  | 0=>fun _=>none
  | n + 1=>d_spec_Holds_L1_B fu r1 Ab t9 Aa (d_spec_Holds_L1 fu r1 Ab t9 Aa n)

def d_spec_Holds (fu:Nat) (r1:Request) (Ac:List Int) (t9:Typ):Option (Bool) :=
  obind (d_spec_Class fu r1) fun Aa=>bif (Aa != 0) then some (false) else obind (d_spec_l6Units fu r1) fun Ab=>d_spec_Holds_L1 fu r1 Ac t9 Ab fu 0

def d_spec_Cheapest_J1 (fu:Nat) (k3:Typ → Bool → Int → Option (Typ × Bool)) (Ac:Int) (Ab:Typ) (Aa:Bool):Option (Typ × Bool) :=
  k3 Ab Aa (w64 (Ac + 1))

def d_spec_Cheapest_L1_B (fu:Nat)  (r1:Request) (Ae:List Int) (k3:Typ → Bool → Int → Option (Typ × Bool)) (Ac:Typ) (Ad:Bool) (Aa:Int):Option (Typ × Bool) :=
  bif (decide (Aa < ((r1.fTypes.length:Int)))) then obind (ix r1.fTypes Aa) fun Ab=>obind (d_spec_Holds fu r1 Ae Ab) fun Af=>bif (!Af) then d_spec_Cheapest_J1 fu k3 Aa Ac Ad else bif (!Ad) then d_spec_Cheapest_J1 fu k3 Aa Ab true else bif (decide (Ab.fCost < Ac.fCost)) then d_spec_Cheapest_J1 fu k3 Aa Ab true else bif (Ab.fCost == Ac.fCost) then bif (decide (Ab.fId < Ac.fId)) then d_spec_Cheapest_J1 fu k3 Aa Ab true else d_spec_Cheapest_J1 fu k3 Aa Ac Ad else d_spec_Cheapest_J1 fu k3 Aa Ac Ad else some (Ac,Ad)
def d_spec_Cheapest_L1 (fu:Nat)  (r1:Request) (Aa:List Int):Nat → Typ → Bool → Int → Option (Typ × Bool)
  | 0=>fun _ _ _=>none
  | n + 1=>d_spec_Cheapest_L1_B fu r1 Aa (d_spec_Cheapest_L1 fu r1 Aa n)

def d_spec_Cheapest (fu:Nat) (r1:Request) (Aa:List Int):Option (Typ × Bool) :=
  d_spec_Cheapest_L1 fu r1 Aa fu ((⟨0,0,0,0,0,0,0⟩:Typ)) false 0

def d_spec_CartonsOf_J1 (fu:Nat) (Aa:List Carton → Int → Option ((List Carton))) (Ab:Int) (Ac:List Carton):Option ((List Carton)) :=
  Aa Ac (w64 (Ab + 1))

def d_spec_CartonsOf_J2 (fu:Nat) (Ac:List Carton → Int → Option ((List Carton))) (Aa:Int) (Ab:List Carton):Option ((List Carton)) :=
  Ac Ab (w64 (Aa + 1))

def d_spec_CartonsOf_L1_B (fu:Nat) (Ah:List Carton → Int → Option ((List Carton))) (Ao:Int) (Aj:(List (List Int))) (Am:List Carton) (Ac:Int) (Al:Typ) (Ad:(List Int)) (Ak:List Int → Int → Option ((List Carton))) (Ab:List Int) (Aa:Int):Option ((List Carton)) :=
  bif (decide (Aa < ((Ad.length:Int)))) then obind (ix Aj Ac) fun Af=>obind (ix Ad Aa) fun Ai=>obind (ix Af Ai) fun Ap=>obind (apnd 8 Ab (([Ap]:List Int))) fun Ag=>Ak Ag (w64 (Aa + 1)) else obind (apnd 40 Am [(⟨Al.fId,Ao,Ab⟩:Carton)]) fun Ae=>d_spec_CartonsOf_J2 fu Ah Ac Ae
def d_spec_CartonsOf_L1 (fu:Nat) (Aa:List Carton → Int → Option ((List Carton))) (Ag:Int) (Ad:(List (List Int))) (Af:List Carton) (Ab:Int) (Ae:Typ) (Ac:(List Int)):Nat → List Int → Int → Option ((List Carton))
  | 0=>fun _ _=>none
  | n + 1=>d_spec_CartonsOf_L1_B fu Aa Ag Ad Af Ab Ae Ac (d_spec_CartonsOf_L1 fu Aa Ag Ad Af Ab Ae Ac n)

def d_spec_CartonsOf_J3 (fu:Nat) (Ac:List Carton → Int → Option ((List Carton))) (Ah:Int) (Ab:(List (List Int))) (Ag:List Carton) (Aa:Int) (Af:Typ):Option ((List Carton)) :=
  obind (ix Ab Aa) fun Ad=>obind (d_spec_SortUp fu Ad) fun Ae=>d_spec_CartonsOf_L1 fu Ac Ah Ab Ag Aa Af Ae fu (([]:List Int)) 0

def d_spec_CartonsOf_L2_B (fu:Nat) (Ah:List Carton → Int → Option ((List Carton))) (r1:Request) (Ad:Int) (Ab:(List (List Int))) (Ag:List Carton → Int → Option ((List Carton))) (Ac:List Carton) (Aa:Int):Option ((List Carton)) :=
  bif (decide (Aa < ((Ab.length:Int)))) then obind (ix Ab Aa) fun Af=>obind (d_spec_Cheapest fu r1 Af) fun Ae=>d_spec_CartonsOf_J3 fu Ag Ad Ab Ac Aa Ae.1 else d_spec_CartonsOf_J1 fu Ah Ad Ac
def d_spec_CartonsOf_L2 (fu:Nat) (Ab:List Carton → Int → Option ((List Carton))) (r1:Request) (Ac:Int) (Aa:(List (List Int))):Nat → List Carton → Int → Option ((List Carton))
  | 0=>fun _ _=>none
  | n + 1=>d_spec_CartonsOf_L2_B fu Ab r1 Ac Aa (d_spec_CartonsOf_L2 fu Ab r1 Ac Aa n)

def d_spec_CartonsOf_L3_B (fu:Nat)  (r1:Request) (Ac:(List (List Int))) (Ad:List Carton → Int → Option ((List Carton))) (Ab:List Carton) (Aa:Int):Option ((List Carton)) :=
  bif (decide (Aa < ((Ac.length:Int)))) then obind (d_spec_UnitsOf fu r1 Aa) fun Af=>obind (d_spec_PackWay fu r1 Af) fun Ae=>d_spec_CartonsOf_L2 fu Ad r1 Aa Ae fu Ab 0 else some (Ab)
def d_spec_CartonsOf_L3 (fu:Nat)  (r1:Request) (Aa:(List (List Int))):Nat → List Carton → Int → Option ((List Carton))
  | 0=>fun _ _=>none
  | n + 1=>d_spec_CartonsOf_L3_B fu r1 Aa (d_spec_CartonsOf_L3 fu r1 Aa n)

def d_spec_CartonsOf (fu:Nat) (r1:Request):Option ((List Carton)) :=
  obind (d_spec_GroupsOf fu r1) fun Aa=>d_spec_CartonsOf_L3 fu r1 Aa fu (([]:List Carton)) 0

def d_spec_TypeById_L1_B (fu:Nat)  (r1:Request) (Ac:Int) (k1:Int → Option (Typ × Bool)) (Aa:Int):Option (Typ × Bool) :=
  bif (decide (Aa < ((r1.fTypes.length:Int)))) then obind (ix r1.fTypes Aa) fun Ab=>bif (Ab.fId == Ac) then obind (ix r1.fTypes Aa) fun Ad=>some (Ab,true) else k1 (w64 (Aa + 1)) else some ((⟨0,0,0,0,0,0,0⟩:Typ),false)
def d_spec_TypeById_L1 (fu:Nat)  (r1:Request) (Aa:Int):Nat → Int → Option (Typ × Bool)
  | 0=>fun _=>none
  | n + 1=>d_spec_TypeById_L1_B fu r1 Aa (d_spec_TypeById_L1 fu r1 Aa n)

def d_spec_TypeById (fu:Nat) (r1:Request) (Aa:Int):Option (Typ × Bool) :=
  d_spec_TypeById_L1 fu r1 Aa fu 0

def d_spec_Units (fu:Nat) (r1:Request):Option ((List Int)) :=
  obind (d_spec_Class fu r1) fun Ab=>bif (Ab != 0) then some (([]:List Int)) else obind (d_spec_l6Units fu r1) fun Aa=>some (Aa)

def d_spec_GramOf_J1 (fu:Nat) (k7:Int → Int → Option (Int)) (Aa:Int) (Ab:Int):Option (Int) :=
  k7 Ab (w64 (Aa + 1))

def d_spec_GramOf_J2 (fu:Nat) (k7:Int → Int → Option (Int)) (Ac:Int) (Ab:Int) (Aa:Item):Option (Int) :=
  d_spec_GramOf_J1 fu k7 Ab (w64 (Ac + Aa.fGram))

def d_spec_GramOf_L1_B (fu:Nat)  (r1:Request) (Ab:List Int) (Af:(List Int)) (k7:Int → Int → Option (Int)) (Ac:Int) (Aa:Int):Option (Int) :=
  bif (decide (Aa < ((Ab.length:Int)))) then obind (ix Ab Aa) fun Ae=>obind (d_spec_l6Item fu r1 Af Ae) fun Ad=>d_spec_GramOf_J2 fu k7 Ac Aa Ad.1 else some (Ac)
def d_spec_GramOf_L1 (fu:Nat)  (r1:Request) (Aa:List Int) (Ab:(List Int)):Nat → Int → Int → Option (Int)
  | 0=>fun _ _=>none
  | n + 1=>d_spec_GramOf_L1_B fu r1 Aa Ab (d_spec_GramOf_L1 fu r1 Aa Ab n)

def d_spec_GramOf (fu:Nat) (r1:Request) (Aa:List Int):Option (Int) :=
  obind (d_spec_Units fu r1) fun Ab=>d_spec_GramOf_L1 fu r1 Aa Ab fu 0 0

def d_spec_Gross_J1 (fu:Nat) (r1:Request) (x5:Carton) (Ab:Typ × Bool)  : Option (Int) :=
  obind (d_spec_GramOf fu r1 x5.fUnits) fun Aa=>some (w64 (Ab.1.fTare + Aa))

def d_spec_Gross (fu:Nat) (r1:Request) (x5:Carton):Option (Int) :=
  obind (d_spec_TypeById fu r1 x5.fType) fun Aa=>obind (d_spec_Class fu r1) fun Ab=>bif (Ab != 0) then some (0) else bif (!Aa.2) then some (0) else d_spec_Gross_J1 fu r1 x5 Aa

def d_spec_BoxOf_J1 (fu:Nat) (r1:Request) (x5:Carton) (Aa:Typ × Bool)  : Option (Box) :=
  obind (d_spec_Gross fu r1 x5) fun Ab=>some ((⟨Aa.1.fW,Aa.1.fD,Aa.1.fH,Ab⟩:Box))

def d_spec_BoxOf (fu:Nat) (r1:Request) (x5:Carton):Option (Box) :=
  obind (d_spec_TypeById fu r1 x5.fType) fun Aa=>obind (d_spec_Class fu r1) fun Ab=>bif (Ab != 0) then some ((⟨0,0,0,0⟩:Box)) else bif (!Aa.2) then some ((⟨0,0,0,0⟩:Box)) else d_spec_BoxOf_J1 fu r1 x5 Aa

def d_spec_BoxesOk_J1 (fu:Nat) (k3:Int → Option (Bool)) (Aa:Int)  : Option (Bool) :=
  k3 (w64 (Aa + 1))

def d_spec_BoxesOk_L1_B (fu:Nat)  (p1:Pallet) (Ac:List Box) (k3:Int → Option (Bool)) (Ab:Int):Option (Bool) :=
  bif (decide (Ab < ((Ac.length:Int)))) then obind (ix Ac Ab) fun Aa=>obind (d_spec_l1In fu Aa.fW 1 p1.fW) fun Ad=>bif (!Ad) then some (false) else obind (d_spec_l1In fu Aa.fD 1 p1.fD) fun Ag=>bif (!Ag) then some (false) else obind (d_spec_l1In fu Aa.fH 1 p1.fH) fun Af=>bif (!Af) then some (false) else obind (d_spec_l1In fu Aa.fGram 1 p1.fGram) fun Ae=>bif (!Ae) then some (false) else d_spec_BoxesOk_J1 fu k3 Ab else some (true)
def d_spec_BoxesOk_L1 (fu:Nat)  (p1:Pallet) (Aa:List Box):Nat → Int → Option (Bool)
  | 0=>fun _=>none
  | n + 1=>d_spec_BoxesOk_L1_B fu p1 Aa (d_spec_BoxesOk_L1 fu p1 Aa n)

def d_spec_BoxesOk (fu:Nat) (p1:Pallet) (Aa:List Box):Option (Bool) :=
  obind (d_spec_PalletOk fu p1) fun Ab=>bif (!Ab) then some (false) else d_spec_BoxesOk_L1 fu p1 Aa fu 0

def d_spec_l1Max (fu:Nat) (a1:Int) (b2:Int):Option (Int) :=
  bif (decide (a1 > b2)) then some (a1) else some (b2)

def d_spec_l10Add (fu:Nat) (Aa:Shelf) (Af:Int) (b6:Box):Option (Shelf) :=
  obind (apnd 8 (([]:List Int)) Aa.fList) fun Ac=>obind (apnd 8 Ac (([Af]:List Int))) fun Ab=>obind (d_spec_l1Max fu Aa.fD b6.fD) fun Ad=>obind (d_spec_l1Max fu Aa.fH b6.fH) fun Ae=>some ((⟨Ab,w64 (Aa.fW + b6.fW),Ad,Ae,w64 (Aa.fGram + b6.fGram)⟩:Shelf))

def d_spec_Shelves_J1 (fu:Nat) (k4:List Shelf → Int → Option ((List Shelf))) (Aa:Int) (Ab:List Shelf):Option ((List Shelf)) :=
  k4 Ab (w64 (Aa + 1))

def d_spec_Shelves_L1_B (fu:Nat)  (p1:Pallet) (Am:List Box) (Ac:(List Int)) (k4:List Shelf → Int → Option ((List Shelf))) (Aa:List Shelf) (Ab:Int):Option ((List Shelf)) :=
  bif (decide (Ab < ((Ac.length:Int)))) then obind (ix Ac Ab) fun Ae=>obind (ix Am Ae) fun Ad=>bif (decide (((Aa.length:Int)) > 0)) then obind (ix Aa (w64 (((Aa.length:Int)) - 1))) fun Af=>bif (decide ((w64 (Af.fW + Ad.fW)) ≤ p1.fW)) then obind (ix Aa (w64 (((Aa.length:Int)) - 1))) fun Ar=>bif (decide ((w64 (Af.fGram + Ad.fGram)) ≤ p1.fGram)) then obind (ix Aa (w64 (((Aa.length:Int)) - 1))) fun Ap=>obind (ix Ac Ab) fun Av=>obind (d_spec_l10Add fu Af Ae Ad) fun Aj=>obind (ix Aa (w64 (((Aa.length:Int)) - 1))) fun Aq=>d_spec_Shelves_J1 fu k4 Ab (setx Aa (w64 (((Aa.length:Int)) - 1)) Aj) else obind (ix Ac Ab) fun Au=>obind (d_spec_l10Add fu ((⟨[],0,0,0,0⟩:Shelf)) Ae Ad) fun Al=>obind (apnd 56 Aa [Al]) fun Ag=>d_spec_Shelves_J1 fu k4 Ab Ag else obind (ix Ac Ab) fun As=>obind (d_spec_l10Add fu ((⟨[],0,0,0,0⟩:Shelf)) Ae Ad) fun Ao=>obind (apnd 56 Aa [Ao]) fun Ai=>d_spec_Shelves_J1 fu k4 Ab Ai else obind (ix Ac Ab) fun At=>obind (d_spec_l10Add fu ((⟨[],0,0,0,0⟩:Shelf)) Ae Ad) fun Ah=>obind (apnd 56 Aa [Ah]) fun Ak=>d_spec_Shelves_J1 fu k4 Ab Ak else some (Aa)
def d_spec_Shelves_L1 (fu:Nat)  (p1:Pallet) (Ab:List Box) (Aa:(List Int)):Nat → List Shelf → Int → Option ((List Shelf))
  | 0=>fun _ _=>none
  | n + 1=>d_spec_Shelves_L1_B fu p1 Ab Aa (d_spec_Shelves_L1 fu p1 Ab Aa n)

def d_spec_Shelves_L2_B (fu:Nat)  (p1:Pallet) (Aa:List Box) (k1:List Int → Int → Option ((List Shelf))) (Ac:List Int) (Ab:Int):Option ((List Shelf)) :=
  bif (decide (Ab < ((Aa.length:Int)))) then obind (ix Aa Ab) fun Ad=>obind (apnd 8 Ac (([Ad.fD]:List Int))) fun Af=>k1 Af (w64 (Ab + 1)) else obind (d_spec_SortDown fu Ac) fun Ae=>d_spec_Shelves_L1 fu p1 Aa Ae fu (([]:List Shelf)) 0
def d_spec_Shelves_L2 (fu:Nat)  (p1:Pallet) (Aa:List Box):Nat → List Int → Int → Option ((List Shelf))
  | 0=>fun _ _=>none
  | n + 1=>d_spec_Shelves_L2_B fu p1 Aa (d_spec_Shelves_L2 fu p1 Aa n)

def d_spec_Shelves (fu:Nat) (p1:Pallet) (Aa:List Box):Option ((List Shelf)) :=
  obind (d_spec_BoxesOk fu p1 Aa) fun Ab=>bif (!Ab) then some (([]:List Shelf)) else d_spec_Shelves_L2 fu p1 Aa fu (([]:List Int)) 0

def d_spec_l11Ok (fu:Nat) (p1:Pallet) (d2:Int) (h3:Int) (Aa:Int):Option (Bool) :=
  obind (d_spec_l1In fu d2 1 p1.fD) fun x8=>bif x8 then obind (d_spec_l1In fu h3 1 p1.fH) fun Ab=>bif Ab then obind (d_spec_l1In fu Aa 1 p1.fGram) fun Ac=>some (Ac) else some (false) else some (false)

def d_spec_ShelvesOk_L1_B (fu:Nat)  (p1:Pallet) (Ab:List Shelf) (k1:Int → Option (Bool)) (Aa:Int):Option (Bool) :=
  bif (decide (Aa < ((Ab.length:Int)))) then obind (ix Ab Aa) fun Ac=>obind (ix Ab Aa) fun Ae=>obind (ix Ab Aa) fun Af=>obind (d_spec_l11Ok fu p1 Ac.fD Ac.fH Ac.fGram) fun Ad=>bif (!Ad) then some (false) else k1 (w64 (Aa + 1)) else some (true)
def d_spec_ShelvesOk_L1 (fu:Nat)  (p1:Pallet) (Aa:List Shelf):Nat → Int → Option (Bool)
  | 0=>fun _=>none
  | n + 1=>d_spec_ShelvesOk_L1_B fu p1 Aa (d_spec_ShelvesOk_L1 fu p1 Aa n)

def d_spec_ShelvesOk (fu:Nat) (p1:Pallet) (Aa:List Shelf):Option (Bool) :=
  obind (d_spec_PalletOk fu p1) fun Ab=>bif (!Ab) then some (false) else d_spec_ShelvesOk_L1 fu p1 Aa fu 0

def d_spec_LayersOf_J1 (fu:Nat) (k7:List Layer → Int → Option ((List Layer))) (Ab:Int) (Aa:List Layer):Option ((List Layer)) :=
  k7 Aa (w64 (Ab + 1))

def d_spec_LayersOf_J2 (fu:Nat) (k7:List Layer → Int → Option ((List Layer))) (Ae:Int) (Ab:Shelf) (Ad:List Layer) (Ac:Int):Option ((List Layer)) :=
  obind (ix Ad (w64 (Ac - 1))) fun Aa=>obind (apnd 8 (([]:List Int)) Aa.fShelves) fun Af=>obind (apnd 8 Af (([Ae]:List Int))) fun Ah=>obind (d_spec_l1Max fu Aa.fH Ab.fH) fun Ag=>obind (ix Ad (w64 (Ac - 1))) fun Ai=>d_spec_LayersOf_J1 fu k7 Ae (setx Ad (w64 (Ac - 1)) ((⟨Ah,w64 (Aa.fD + Ab.fD),Ag,w64 (Aa.fGram + Ab.fGram)⟩:Layer)))

def d_spec_LayersOf_L1_B (fu:Nat)  (p1:Pallet) (Ad:List Shelf) (k7:List Layer → Int → Option ((List Layer))) (Aa:List Layer) (Ab:Int):Option ((List Layer)) :=
  bif (decide (Ab < ((Ad.length:Int)))) then obind (ix Ad Ab) fun Ac=>bif (((Aa.length:Int)) == 0) then obind (apnd 48 Aa [(⟨[],0,0,0⟩:Layer)]) fun Af=>d_spec_LayersOf_J2 fu k7 Ab Ac Af (w64 (((Aa.length:Int)) + 1)) else obind (ix Aa (w64 (((Aa.length:Int)) - 1))) fun Ae=>bif (decide ((w64 (Ae.fD + Ac.fD)) > p1.fD)) then obind (apnd 48 Aa [(⟨[],0,0,0⟩:Layer)]) fun Ah=>d_spec_LayersOf_J2 fu k7 Ab Ac Ah (w64 (((Aa.length:Int)) + 1)) else obind (ix Aa (w64 (((Aa.length:Int)) - 1))) fun Ai=>bif (decide ((w64 (Ae.fGram + Ac.fGram)) > p1.fGram)) then obind (apnd 48 Aa [(⟨[],0,0,0⟩:Layer)]) fun Ag=>d_spec_LayersOf_J2 fu k7 Ab Ac Ag (w64 (((Aa.length:Int)) + 1)) else d_spec_LayersOf_J2 fu k7 Ab Ac Aa ((Aa.length:Int)) else some (Aa)
def d_spec_LayersOf_L1 (fu:Nat)  (p1:Pallet) (Aa:List Shelf):Nat → List Layer → Int → Option ((List Layer))
  | 0=>fun _ _=>none
  | n + 1=>d_spec_LayersOf_L1_B fu p1 Aa (d_spec_LayersOf_L1 fu p1 Aa n)

def d_spec_LayersOf (fu:Nat) (p1:Pallet) (Aa:List Shelf):Option ((List Layer)) :=
  obind (d_spec_ShelvesOk fu p1 Aa) fun Ab=>bif (!Ab) then some (([]:List Layer)) else d_spec_LayersOf_L1 fu p1 Aa fu (([]:List Layer)) 0

def d_spec_StacksOk_L1_B (fu:Nat)  (p1:Pallet) (Ab:List Layer) (k1:Int → Option (Bool)) (Aa:Int):Option (Bool) :=
  bif (decide (Aa < ((Ab.length:Int)))) then obind (ix Ab Aa) fun Ac=>obind (ix Ab Aa) fun Ae=>obind (ix Ab Aa) fun Af=>obind (d_spec_l11Ok fu p1 Ac.fD Ac.fH Ac.fGram) fun Ad=>bif (!Ad) then some (false) else k1 (w64 (Aa + 1)) else some (true)
def d_spec_StacksOk_L1 (fu:Nat)  (p1:Pallet) (Aa:List Layer):Nat → Int → Option (Bool)
  | 0=>fun _=>none
  | n + 1=>d_spec_StacksOk_L1_B fu p1 Aa (d_spec_StacksOk_L1 fu p1 Aa n)

def d_spec_StacksOk (fu:Nat) (p1:Pallet) (Aa:List Layer):Option (Bool) :=
  obind (d_spec_PalletOk fu p1) fun Ab=>bif (!Ab) then some (false) else d_spec_StacksOk_L1 fu p1 Aa fu 0

def d_spec_LoadsOf_J1 (fu:Nat) (k7:List Load → Int → Option ((List Load))) (Ab:Int) (Aa:List Load):Option ((List Load)) :=
  k7 Aa (w64 (Ab + 1))

def d_spec_LoadsOf_J2 (fu:Nat) (k7:List Load → Int → Option ((List Load))) (Ae:Int) (Ad:Layer) (Aa:List Load) (Ac:Int):Option ((List Load)) :=
  obind (ix Aa (w64 (Ac - 1))) fun Ab=>obind (apnd 8 (([]:List Int)) Ab.fLayers) fun Af=>obind (apnd 8 Af (([Ae]:List Int))) fun Ag=>obind (ix Aa (w64 (Ac - 1))) fun Ah=>d_spec_LoadsOf_J1 fu k7 Ae (setx Aa (w64 (Ac - 1)) ((⟨Ag,w64 (Ab.fH + Ad.fH),w64 (Ab.fGram + Ad.fGram)⟩:Load)))

def d_spec_LoadsOf_L1_B (fu:Nat)  (p1:Pallet) (Ad:List Layer) (k7:List Load → Int → Option ((List Load))) (Aa:List Load) (Ac:Int):Option ((List Load)) :=
  bif (decide (Ac < ((Ad.length:Int)))) then obind (ix Ad Ac) fun Ab=>bif (((Aa.length:Int)) == 0) then obind (apnd 40 Aa [(⟨[],0,0⟩:Load)]) fun Ah=>d_spec_LoadsOf_J2 fu k7 Ac Ab Ah (w64 (((Aa.length:Int)) + 1)) else obind (ix Aa (w64 (((Aa.length:Int)) - 1))) fun Ae=>bif (decide ((w64 (Ae.fH + Ab.fH)) > p1.fH)) then obind (apnd 40 Aa [(⟨[],0,0⟩:Load)]) fun Ag=>d_spec_LoadsOf_J2 fu k7 Ac Ab Ag (w64 (((Aa.length:Int)) + 1)) else obind (ix Aa (w64 (((Aa.length:Int)) - 1))) fun Ai=>bif (decide ((w64 (Ae.fGram + Ab.fGram)) > p1.fGram)) then obind (apnd 40 Aa [(⟨[],0,0⟩:Load)]) fun Af=>d_spec_LoadsOf_J2 fu k7 Ac Ab Af (w64 (((Aa.length:Int)) + 1)) else d_spec_LoadsOf_J2 fu k7 Ac Ab Aa ((Aa.length:Int)) else some (Aa)
def d_spec_LoadsOf_L1 (fu:Nat)  (p1:Pallet) (Aa:List Layer):Nat → List Load → Int → Option ((List Load))
  | 0=>fun _ _=>none
  | n + 1=>d_spec_LoadsOf_L1_B fu p1 Aa (d_spec_LoadsOf_L1 fu p1 Aa n)

def d_spec_LoadsOf (fu:Nat) (p1:Pallet) (Aa:List Layer):Option ((List Load)) :=
  obind (d_spec_StacksOk fu p1 Aa) fun Ab=>bif (!Ab) then some (([]:List Load)) else d_spec_LoadsOf_L1 fu p1 Aa fu (([]:List Load)) 0

def d_spec_SpotsOf_L1_B (fu:Nat) (Ag:List Spot → Int → Int → Option ((List Spot))) (Al:List Box) (Am:Int) (Ah:Int) (Af:Int) (Ai:Int) (Ab:Shelf) (Ak:List Spot → Int → Int → Option ((List Spot))) (Ac:List Spot) (Ae:Int) (Aa:Int):Option ((List Spot)) :=
  bif (decide (Aa < ((Ab.fList.length:Int)))) then obind (ix Ab.fList Aa) fun Ad=>obind (ix Ac Ad) fun Ap=>obind (ix Ab.fList Aa) fun Ao=>obind (ix Al Ad) fun Aj=>Ak (setx Ac Ad ((⟨Am,Ae,Af,Ah⟩:Spot))) (w64 (Ae + Aj.fW)) (w64 (Aa + 1)) else Ag Ac (w64 (Af + Ab.fD)) (w64 (Ai + 1))
def d_spec_SpotsOf_L1 (fu:Nat) (Aa:List Spot → Int → Int → Option ((List Spot))) (Ad:List Box) (Ae:Int) (Ab:Int) (Ag:Int) (Ac:Int) (Af:Shelf):Nat → List Spot → Int → Int → Option ((List Spot))
  | 0=>fun _ _ _=>none
  | n + 1=>d_spec_SpotsOf_L1_B fu Aa Ad Ae Ab Ag Ac Af (d_spec_SpotsOf_L1 fu Aa Ad Ae Ab Ag Ac Af n)

def d_spec_SpotsOf_L2_B (fu:Nat) (Ai:List Spot → Int → Int → Option ((List Spot))) (Ag:List Box) (Ah:(List Shelf)) (Aj:Int) (Ac:Int) (Ak:Int) (Ab:Layer) (Ae:List Spot → Int → Int → Option ((List Spot))) (Ad:List Spot) (Am:Int) (Aa:Int):Option ((List Spot)) :=
  bif (decide (Aa < ((Ab.fShelves.length:Int)))) then obind (ix Ab.fShelves Aa) fun Af=>obind (ix Ah Af) fun Al=>d_spec_SpotsOf_L1 fu Ae Ag Aj Ac Am Aa Al fu Ad 0 0 else Ai Ad (w64 (Ac + Ab.fH)) (w64 (Ak + 1))
def d_spec_SpotsOf_L2 (fu:Nat) (Ad:List Spot → Int → Int → Option ((List Spot))) (Ab:List Box) (Ac:(List Shelf)) (Af:Int) (Aa:Int) (Ag:Int) (Ae:Layer):Nat → List Spot → Int → Int → Option ((List Spot))
  | 0=>fun _ _ _=>none
  | n + 1=>d_spec_SpotsOf_L2_B fu Ad Ab Ac Af Aa Ag Ae (d_spec_SpotsOf_L2 fu Ad Ab Ac Af Aa Ag Ae n)

def d_spec_SpotsOf_L3_B (fu:Nat) (Ah:List Spot → Int → Option ((List Spot))) (Ai:List Box) (Aj:(List Shelf)) (Ak:(List Layer)) (Ae:(List Load)) (Aa:Int) (Al:List Spot → Int → Int → Option ((List Spot))) (Ad:List Spot) (Af:Int) (Ab:Int):Option ((List Spot)) :=
  obind (ix Ae Aa) fun Ac=>bif (decide (Ab < ((Ac.fLayers.length:Int)))) then obind (ix Ae Aa) fun Ao=>obind (ix Ac.fLayers Ab) fun Ag=>obind (ix Ak Ag) fun Am=>d_spec_SpotsOf_L2 fu Al Ai Aj Aa Af Ab Am fu Ad 0 0 else Ah Ad (w64 (Aa + 1))
def d_spec_SpotsOf_L3 (fu:Nat) (Aa:List Spot → Int → Option ((List Spot))) (Ab:List Box) (Ac:(List Shelf)) (Ad:(List Layer)) (Ae:(List Load)) (Af:Int):Nat → List Spot → Int → Int → Option ((List Spot))
  | 0=>fun _ _ _=>none
  | n + 1=>d_spec_SpotsOf_L3_B fu Aa Ab Ac Ad Ae Af (d_spec_SpotsOf_L3 fu Aa Ab Ac Ad Ae Af n)

def d_spec_SpotsOf_L4_B (fu:Nat)  (Ae:List Box) (Af:(List Shelf)) (Ag:(List Layer)) (Ab:(List Load)) (Ad:List Spot → Int → Option ((List Spot))) (Aa:List Spot) (Ac:Int):Option ((List Spot)) :=
  bif (decide (Ac < ((Ab.length:Int)))) then d_spec_SpotsOf_L3 fu Ad Ae Af Ag Ab Ac fu Aa 0 0 else some (Aa)
def d_spec_SpotsOf_L4 (fu:Nat)  (Ad:List Box) (Ac:(List Shelf)) (Aa:(List Layer)) (Ab:(List Load)):Nat → List Spot → Int → Option ((List Spot))
  | 0=>fun _ _=>none
  | n + 1=>d_spec_SpotsOf_L4_B fu Ad Ac Aa Ab (d_spec_SpotsOf_L4 fu Ad Ac Aa Ab n)

def d_spec_SpotsOf (fu:Nat) (p1:Pallet) (Aa:List Box):Option ((List Spot)) :=
  obind (mk 32 (⟨(0:Int),(0:Int),(0:Int),(0:Int)⟩:Spot) ((Aa.length:Int))) fun Ae=>obind (d_spec_BoxesOk fu p1 Aa) fun Af=>bif (!Af) then some (([]:List Spot)) else obind (d_spec_Shelves fu p1 Aa) fun Ab=>obind (d_spec_LayersOf fu p1 Ab) fun Ac=>obind (d_spec_LoadsOf fu p1 Ac) fun Ad=>d_spec_SpotsOf_L4 fu Aa Ab Ac Ad fu Ae 0

def d_spec_Pallets_J1 (fu:Nat) (k3:Int → Int → Option (Int)) (Ab:Int) (Aa:Int):Option (Int) :=
  k3 Aa (w64 (Ab + 1))

def d_spec_Pallets_L1_B (fu:Nat)  (Ab:List Spot) (k3:Int → Int → Option (Int)) (Ac:Int) (Aa:Int):Option (Int) :=
  bif (decide (Aa < ((Ab.length:Int)))) then obind (ix Ab Aa) fun Ad=>obind (d_spec_l1In fu Ad.fPallet 0 999999) fun Ae=>bif Ae then obind (ix Ab Aa) fun Ag=>obind (d_spec_l1Max fu Ac (w64 (Ad.fPallet + 1))) fun Af=>d_spec_Pallets_J1 fu k3 Aa Af else d_spec_Pallets_J1 fu k3 Aa Ac else some (Ac)
def d_spec_Pallets_L1 (fu:Nat)  (Aa:List Spot):Nat → Int → Int → Option (Int)
  | 0=>fun _ _=>none
  | n + 1=>d_spec_Pallets_L1_B fu Aa (d_spec_Pallets_L1 fu Aa n)

def d_spec_Pallets (fu:Nat) (Aa:List Spot):Option (Int) :=
  d_spec_Pallets_L1 fu Aa fu 0 0

def d_spec_PlanOf_J1 (fu:Nat) (Ab:List Box → Int → Option (Plan × Bool)) (Ac:Int) (Aa:List Box):Option (Plan × Bool) :=
  Ab Aa (w64 (Ac + 1))

def d_spec_PlanOf_L1_B (fu:Nat) (Ah:List Spot → Int → Int → Option (Plan × Bool)) (Ad:Int) (Ai:Int) (Ab:(List Spot)) (Af:List Spot → Int → Option (Plan × Bool)) (Ae:List Spot) (Ac:Int):Option (Plan × Bool) :=
  bif (decide (Ac < ((Ab.length:Int)))) then obind (ix Ab Ac) fun Aa=>obind (apnd 32 Ae (([(⟨w64 (Aa.fPallet + Ad),Aa.fX,Aa.fY,Aa.fZ⟩:Spot)]:List Spot))) fun Aj=>Af Aj (w64 (Ac + 1)) else obind (d_spec_Pallets fu Ab) fun Ag=>Ah Ae (w64 (Ad + Ag)) (w64 (Ai + 1))
def d_spec_PlanOf_L1 (fu:Nat) (Aa:List Spot → Int → Int → Option (Plan × Bool)) (Ad:Int) (Ac:Int) (Ab:(List Spot)):Nat → List Spot → Int → Option (Plan × Bool)
  | 0=>fun _ _=>none
  | n + 1=>d_spec_PlanOf_L1_B fu Aa Ad Ac Ab (d_spec_PlanOf_L1 fu Aa Ad Ac Ab n)

def d_spec_PlanOf_L2_B (fu:Nat) (Ai:List Spot → Int → Int → Option (Plan × Bool)) (r1:Request) (Ac:(List Carton)) (Ag:List Spot) (Ah:Int) (Af:Int) (Ad:List Box → Int → Option (Plan × Bool)) (Ab:List Box) (Aa:Int):Option (Plan × Bool) :=
  bif (decide (Aa < ((Ac.length:Int)))) then obind (ix Ac Aa) fun Ae=>bif (Ae.fGroup == Af) then obind (ix Ac Aa) fun Am=>obind (d_spec_BoxOf fu r1 Ae) fun Ak=>obind (apnd 32 Ab (([Ak]:List Box))) fun Al=>d_spec_PlanOf_J1 fu Ad Aa Al else d_spec_PlanOf_J1 fu Ad Aa Ab else obind (d_spec_SpotsOf fu r1.fPallet Ab) fun Aj=>d_spec_PlanOf_L1 fu Ai Ah Af Aj fu Ag 0
def d_spec_PlanOf_L2 (fu:Nat) (Ac:List Spot → Int → Int → Option (Plan × Bool)) (r1:Request) (Ad:(List Carton)) (Aa:List Spot) (Ab:Int) (Ae:Int):Nat → List Box → Int → Option (Plan × Bool)
  | 0=>fun _ _=>none
  | n + 1=>d_spec_PlanOf_L2_B fu Ac r1 Ad Aa Ab Ae (d_spec_PlanOf_L2 fu Ac r1 Ad Aa Ab Ae n)

def d_spec_PlanOf_L3_B (fu:Nat)  (r1:Request) (Ab:(List Carton)) (Ad:(List (List Int))) (Af:List Spot → Int → Int → Option (Plan × Bool)) (Aa:List Spot) (Ae:Int) (Ac:Int):Option (Plan × Bool) :=
  bif (decide (Ac < ((Ad.length:Int)))) then d_spec_PlanOf_L2 fu Af r1 Ab Aa Ae Ac fu (([]:List Box)) 0 else some ((⟨Ab,Aa⟩:Plan),true)
def d_spec_PlanOf_L3 (fu:Nat)  (r1:Request) (Ab:(List Carton)) (Aa:(List (List Int))):Nat → List Spot → Int → Int → Option (Plan × Bool)
  | 0=>fun _ _ _=>none
  | n + 1=>d_spec_PlanOf_L3_B fu r1 Ab Aa (d_spec_PlanOf_L3 fu r1 Ab Aa n)

def d_spec_PlanOf (fu:Nat) (r1:Request):Option (Plan × Bool) :=
  obind (d_spec_Class fu r1) fun Ac=>bif (Ac != 0) then some ((⟨[],[]⟩:Plan),false) else obind (d_spec_CartonsOf fu r1) fun Ab=>obind (d_spec_GroupsOf fu r1) fun Aa=>d_spec_PlanOf_L3 fu r1 Ab Aa fu (([]:List Spot)) 0 0

def d_spec_l13Carton_J1 (fu:Nat) (k4:Int → Option (Bool)) (Aa:Int)  : Option (Bool) :=
  k4 (w64 (Aa + 1))

def d_spec_l13Carton_L1_B (fu:Nat)  (x1:Carton) (k4:Int → Option (Bool)) (Aa:Int):Option (Bool) :=
  bif (decide (Aa < ((x1.fUnits.length:Int)))) then obind (ix x1.fUnits Aa) fun Ab=>obind (d_spec_l1In fu Ab 0 999) fun Ac=>bif (!Ac) then some (false) else bif (decide (Aa > 0)) then obind (ix x1.fUnits Aa) fun Ae=>obind (ix x1.fUnits (w64 (Aa - 1))) fun Ad=>bif (decide (Ab ≤ Ad)) then some (false) else d_spec_l13Carton_J1 fu k4 Aa else d_spec_l13Carton_J1 fu k4 Aa else some (true)
def d_spec_l13Carton_L1 (fu:Nat)  (x1:Carton):Nat → Int → Option (Bool)
  | 0=>fun _=>none
  | n + 1=>d_spec_l13Carton_L1_B fu x1 (d_spec_l13Carton_L1 fu x1 n)

def d_spec_l13Carton_J2 (fu:Nat) (x1:Carton)  : Option (Bool) :=
  d_spec_l13Carton_L1 fu x1 fu 0

def d_spec_l13Carton (fu:Nat) (x1:Carton):Option (Bool) :=
  obind (d_spec_l2Id fu x1.fType) fun Aa=>bif (!Aa) then some (false) else obind (d_spec_l1In fu x1.fGroup 0 3) fun Ab=>bif (!Ab) then some (false) else bif (decide (((x1.fUnits.length:Int)) > 100)) then some (false) else d_spec_l13Carton_J2 fu x1

def d_spec_PlanOk_J1 (fu:Nat) (k4:Int → Option (Bool)) (Aa:Int)  : Option (Bool) :=
  k4 (w64 (Aa + 1))

def d_spec_PlanOk_L1_B (fu:Nat)  (x1:Plan) (k4:Int → Option (Bool)) (Ab:Int):Option (Bool) :=
  bif (decide (Ab < ((x1.fCartons.length:Int)))) then obind (ix x1.fSpots Ab) fun Aa=>obind (ix x1.fCartons Ab) fun Ad=>obind (d_spec_l13Carton fu Ad) fun Ac=>bif (!Ac) then some (false) else obind (d_spec_l1In fu Aa.fPallet 0 2000) fun Ah=>bif (!Ah) then some (false) else obind (d_spec_l1In fu Aa.fX 0 2000) fun Ag=>bif (!Ag) then some (false) else obind (d_spec_l1In fu Aa.fY 0 2000) fun Ae=>bif (!Ae) then some (false) else obind (d_spec_l1In fu Aa.fZ 0 2000) fun Af=>bif (!Af) then some (false) else d_spec_PlanOk_J1 fu k4 Ab else some (true)
def d_spec_PlanOk_L1 (fu:Nat)  (x1:Plan):Nat → Int → Option (Bool)
  | 0=>fun _=>none
  | n + 1=>d_spec_PlanOk_L1_B fu x1 (d_spec_PlanOk_L1 fu x1 n)

def d_spec_PlanOk_J2 (fu:Nat) (x1:Plan)  : Option (Bool) :=
  d_spec_PlanOk_L1 fu x1 fu 0

def d_spec_PlanOk (fu:Nat) (x1:Plan):Option (Bool) :=
  bif (((x1.fCartons.length:Int)) != ((x1.fSpots.length:Int))) then some (false) else bif (decide (((x1.fCartons.length:Int)) > 100)) then some (false) else d_spec_PlanOk_J2 fu x1

def d_spec_l14Line_L1_B (fu:Nat)  (Ab:List Int) (k1:ByteArray → Int → Option (ByteArray)) (Ac:ByteArray) (Aa:Int):Option (ByteArray) :=
  bif (decide (Aa < ((Ab.length:Int)))) then obind (scat Ac ((⟨#[32]⟩:ByteArray))) fun Ae=>obind (ix Ab Aa) fun Af=>obind (d_spec_Digits fu Af) fun Ad=>obind (scat Ae Ad) fun Ag=>k1 Ag (w64 (Aa + 1)) else some (Ac)
def d_spec_l14Line_L1 (fu:Nat)  (Aa:List Int):Nat → ByteArray → Int → Option (ByteArray)
  | 0=>fun _ _=>none
  | n + 1=>d_spec_l14Line_L1_B fu Aa (d_spec_l14Line_L1 fu Aa n)

def d_spec_l14Line (fu:Nat) (x1:Carton) (Aa:Spot):Option (ByteArray) :=
  obind (apnd 8 (([x1.fType,x1.fGroup,Aa.fPallet,Aa.fX,Aa.fY,Aa.fZ]:List Int)) x1.fUnits) fun Ab=>d_spec_l14Line_L1 fu Ab fu ((⟨#[99,97,114,116,111,110]⟩:ByteArray)) 0

def d_spec_PlanText_L1_B (fu:Nat)  (x1:Plan) (k1:ByteArray → Int → Option (ByteArray)) (Ab:ByteArray) (Aa:Int):Option (ByteArray) :=
  bif (decide (Aa < ((x1.fCartons.length:Int)))) then obind (ix x1.fCartons Aa) fun Ad=>obind (ix x1.fSpots Aa) fun Ag=>obind (d_spec_l14Line fu Ad Ag) fun Ac=>obind (scat Ab Ac) fun Ae=>obind (scat Ae ((⟨#[10]⟩:ByteArray))) fun Af=>k1 Af (w64 (Aa + 1)) else some (Ab)
def d_spec_PlanText_L1 (fu:Nat)  (x1:Plan):Nat → ByteArray → Int → Option (ByteArray)
  | 0=>fun _ _=>none
  | n + 1=>d_spec_PlanText_L1_B fu x1 (d_spec_PlanText_L1 fu x1 n)

def d_spec_PlanText (fu:Nat) (x1:Plan):Option (ByteArray) :=
  obind (d_spec_PlanOk fu x1) fun Aa=>bif (!Aa) then some ((⟨#[]⟩:ByteArray)) else d_spec_PlanText_L1 fu x1 fu ((⟨#[]⟩:ByteArray)) 0

def d_spec_Pack (fu:Nat) (Aa:ByteArray):Option (ByteArray × Int) :=
  obind (d_spec_ClassOf fu Aa) fun x2=>bif (x2 != 0) then some ((⟨#[]⟩:ByteArray),x2) else obind (d_spec_ReadOrder fu Aa) fun x7=>obind (d_spec_PlanOf fu x7.1) fun Ac=>obind (d_spec_PlanText fu Ac.1) fun Ab=>some (Ab,0)

def d_impl_Parts_J1 (fu:Nat) (k3:List ByteArray → Int → Int → Option ((List ByteArray))) (Aa:Int) (Ab:List ByteArray) (Ac:Int):Option ((List ByteArray)) :=
  k3 Ab Ac (w64 (Aa + 1))

def d_impl_Parts_L1_B (fu:Nat)  (Ab:ByteArray) (Aj:Int) (k3:List ByteArray → Int → Int → Option ((List ByteArray))) (Ac:List ByteArray) (Ad:Int) (Aa:Int):Option ((List ByteArray)) :=
  bif (decide (Aa < ((Ab.size:Int)))) then obind (sx Ab Aa) fun Ag=>bif (Ag == Aj) then obind (ssl Ab Ad Aa) fun Ai=>obind (apnd 16 Ac (([Ai]:List ByteArray))) fun Af=>d_impl_Parts_J1 fu k3 Aa Af (w64 (Aa + 1)) else d_impl_Parts_J1 fu k3 Aa Ac Ad else obind (ssl Ab Ad (Ab.size:Int)) fun Ae=>obind (apnd 16 Ac (([Ae]:List ByteArray))) fun Ah=>some (Ah)
def d_impl_Parts_L1 (fu:Nat)  (Ab:ByteArray) (Aa:Int):Nat → List ByteArray → Int → Int → Option ((List ByteArray))
  | 0=>fun _ _ _=>none
  | n + 1=>d_impl_Parts_L1_B fu Ab Aa (d_impl_Parts_L1 fu Ab Aa n)

def d_impl_Parts (fu:Nat) (Ab:ByteArray) (Aa:Int):Option ((List ByteArray)) :=
  d_impl_Parts_L1 fu Ab Aa fu (([]:List ByteArray)) 0 0

def d_strconv_Atoi (fu:Nat) (x1:ByteArray):Option (Int × Bool):=atoiO x1

def d_impl_in (fu:Nat) (n1:Int) (Aa:Int) (Ab:Int):Option (Bool) :=
  bif (decide (n1 ≥ Aa)) then some (decide (n1 ≤ Ab)) else some (false)

def d_strconv_Itoa (fu:Nat) (x1:Int):Option ByteArray:=itoaO x1

def d_impl_Digits (fu:Nat) (n1:Int):Option (ByteArray) :=
  obind (d_strconv_Itoa fu n1) fun x2=>some (x2)

def d_impl_Number_J1 (fu:Nat) (x2:Int × Bool)  : Option (Int × Bool) :=
  some (x2.1,true)

def d_impl_Number (fu:Nat) (Aa:ByteArray):Option (Int × Bool) :=
  obind (d_strconv_Atoi fu Aa) fun x2=>bif x2.2 then some (0,false) else obind (d_impl_in fu x2.1 0 999999) fun Ac=>bif (!Ac) then some (0,false) else obind (d_impl_Digits fu x2.1) fun Ab=>bif (!(Ab.toList == Aa.toList)) then some (0,false) else d_impl_Number_J1 fu x2

def d_impl_wordsOf_L1_B (fu:Nat)  (Ab:List ByteArray) (k2:List Int → Int → Option ((List Int) × Bool)) (Ac:List Int) (Aa:Int):Option ((List Int) × Bool) :=
  bif (decide (Aa < ((Ab.length:Int)))) then obind (ix Ab Aa) fun Af=>obind (d_impl_Number fu Af) fun Ad=>bif (!Ad.2) then some (([]:List Int),false) else obind (apnd 8 Ac (([Ad.1]:List Int))) fun Ae=>k2 Ae (w64 (Aa + 1)) else some (Ac,true)
def d_impl_wordsOf_L1 (fu:Nat)  (Aa:List ByteArray):Nat → List Int → Int → Option ((List Int) × Bool)
  | 0=>fun _ _=>none
  | n + 1=>d_impl_wordsOf_L1_B fu Aa (d_impl_wordsOf_L1 fu Aa n)

def d_impl_wordsOf_J1 (fu:Nat) (x4:(List ByteArray))  : Option ((List Int) × Bool) :=
  obind (sls x4 1 (x4.length:Int)) fun Aa=>d_impl_wordsOf_L1 fu Aa fu (([]:List Int)) 0

def d_impl_wordsOf (fu:Nat) (Ab:ByteArray) (Ac:ByteArray) (Ad:Int):Option ((List Int) × Bool) :=
  obind (d_impl_Parts fu Ab 32) fun x4=>obind (ix x4 0) fun Aa=>bif (!(Aa.toList == Ac.toList)) then some (([]:List Int),false) else bif (((x4.length:Int)) != (w64 (Ad + 1))) then some (([]:List Int),false) else d_impl_wordsOf_J1 fu x4

def d_impl_putLine (fu:Nat) (r1:Request) (Aa:ByteArray):Option (Int × Request) :=
  bif (Aa.toList == ((⟨#[119,97,121,32,102,105,114,115,116]⟩:ByteArray)).toList) then some (0,(⟨0,r1.fPallet,r1.fClasses,r1.fPairs,r1.fTypes,r1.fMaster,r1.fItems⟩:Request)) else bif (Aa.toList == ((⟨#[119,97,121,32,110,101,120,116]⟩:ByteArray)).toList) then some (0,(⟨1,r1.fPallet,r1.fClasses,r1.fPairs,r1.fTypes,r1.fMaster,r1.fItems⟩:Request)) else obind (d_impl_wordsOf fu Aa ((⟨#[112,97,108,108,101,116]⟩:ByteArray)) 4) fun Ad=>bif Ad.2 then obind (ix Ad.1 0) fun Be=>obind (ix Ad.1 1) fun Av=>obind (ix Ad.1 2) fun Bf=>obind (ix Ad.1 3) fun Al=>some (1,(⟨r1.fWay,(⟨Be,Av,Bf,Al⟩:Pallet),r1.fClasses,r1.fPairs,r1.fTypes,r1.fMaster,r1.fItems⟩:Request)) else obind (d_impl_wordsOf fu Aa ((⟨#[99,108,97,115,115,101,115]⟩:ByteArray)) 1) fun Ag=>bif Ag.2 then obind (ix Ag.1 0) fun Ar=>some (2,(⟨r1.fWay,r1.fPallet,Ar,r1.fPairs,r1.fTypes,r1.fMaster,r1.fItems⟩:Request)) else obind (d_impl_wordsOf fu Aa ((⟨#[119,105,116,104]⟩:ByteArray)) 2) fun Ae=>bif Ae.2 then obind (ix Ae.1 0) fun Aw=>obind (ix Ae.1 1) fun Ax=>obind (apnd 16 r1.fPairs (([(⟨Aw,Ax⟩:Pair)]:List Pair))) fun Ay=>some (3,(⟨r1.fWay,r1.fPallet,r1.fClasses,Ay,r1.fTypes,r1.fMaster,r1.fItems⟩:Request)) else obind (d_impl_wordsOf fu Aa ((⟨#[116,121,112,101]⟩:ByteArray)) 7) fun Ab=>bif Ab.2 then obind (ix Ab.1 0) fun Bb=>obind (ix Ab.1 1) fun Ai=>obind (ix Ab.1 2) fun Aj=>obind (ix Ab.1 3) fun Ap=>obind (ix Ab.1 4) fun Ao=>obind (ix Ab.1 5) fun Am=>obind (ix Ab.1 6) fun Bc=>obind (apnd 56 r1.fTypes (([(⟨Bb,Ai,Aj,Ap,Ao,Am,Bc⟩:Typ)]:List Typ))) fun Aq=>some (4,(⟨r1.fWay,r1.fPallet,r1.fClasses,r1.fPairs,Aq,r1.fMaster,r1.fItems⟩:Request)) else obind (d_impl_wordsOf fu Aa ((⟨#[109,97,115,116,101,114]⟩:ByteArray)) 1) fun Af=>bif Af.2 then obind (ix Af.1 0) fun Bd=>some (5,(⟨r1.fWay,r1.fPallet,r1.fClasses,r1.fPairs,r1.fTypes,Bd,r1.fItems⟩:Request)) else obind (d_impl_wordsOf fu Aa ((⟨#[105,116,101,109]⟩:ByteArray)) 7) fun Ac=>bif Ac.2 then obind (ix Ac.1 0) fun As=>obind (ix Ac.1 1) fun Bg=>obind (ix Ac.1 2) fun Ba=>obind (ix Ac.1 3) fun Ah=>obind (ix Ac.1 4) fun At=>obind (ix Ac.1 5) fun Au=>obind (ix Ac.1 6) fun Az=>obind (apnd 56 r1.fItems (([(⟨As,Bg,Ba,Ah,At,Au,Az⟩:Item)]:List Item))) fun Ak=>some (6,(⟨r1.fWay,r1.fPallet,r1.fClasses,r1.fPairs,r1.fTypes,r1.fMaster,Ak⟩:Request)) else some ((-1),r1)

def d_impl_mayFollow_J1 (fu:Nat)   : Option (Bool) :=
  some (false)

def d_impl_mayFollow (fu:Nat) (Aa:Int) (Ab:Int):Option (Bool) :=
  bif (Ab == 0) then bif (Ab == 0) then some (Aa == (w64 (Ab - 1))) else bif (Ab == 3) then bif (Aa == 2) then some (true) else some (Aa == 3) else bif (Ab == 4) then obind (d_impl_in fu Aa 2 4) fun Ae=>some (Ae) else bif (Ab == 5) then obind (d_impl_in fu Aa 2 4) fun Af=>some (Af) else bif (Ab == 6) then bif (Aa == 5) then some (true) else some (Aa == 6) else d_impl_mayFollow_J1 fu else bif (Ab == 1) then bif (Ab == 1) then some (Aa == (w64 (Ab - 1))) else bif (Ab == 3) then bif (Aa == 2) then some (true) else some (Aa == 3) else bif (Ab == 4) then obind (d_impl_in fu Aa 2 4) fun Ad=>some (Ad) else bif (Ab == 5) then obind (d_impl_in fu Aa 2 4) fun Ah=>some (Ah) else bif (Ab == 6) then bif (Aa == 5) then some (true) else some (Aa == 6) else d_impl_mayFollow_J1 fu else bif (Ab == 2) then some (Aa == (w64 (Ab - 1))) else bif (Ab == 3) then bif (Aa == 2) then some (true) else some (Aa == 3) else bif (Ab == 4) then obind (d_impl_in fu Aa 2 4) fun Ag=>some (Ag) else bif (Ab == 5) then obind (d_impl_in fu Aa 2 4) fun Ac=>some (Ac) else bif (Ab == 6) then bif (Aa == 5) then some (true) else some (Aa == 6) else d_impl_mayFollow_J1 fu

def d_impl_ReadOrder_L1_B (fu:Nat)  (x5:(List ByteArray)) (Al:List ByteArray) (k1:Int → Int → Int → Int → Int → Int → List Pair → List Typ → Int → List Item → Int → Int → Option (Request × Int)) (Am:Int) (Ae:Int) (Ad:Int) (Af:Int) (Ah:Int) (Ac:Int) (Ai:List Pair) (Ao:List Typ) (Ak:Int) (Aj:List Item) (Ag:Int) (Ab:Int):Option (Request × Int) :=
  bif (decide (Ab < ((Al.length:Int)))) then obind (ix Al Ab) fun Aq=>obind (d_impl_putLine fu ((⟨Am,(⟨Ae,Ad,Af,Ah⟩:Pallet),Ac,Ai,Ao,Ak,Aj⟩:Request)) Aq) fun Aa=>obind (d_impl_mayFollow fu Ag Aa.1) fun Ar=>bif (!Ar) then some ((⟨0,(⟨0,0,0,0⟩:Pallet),0,[],[],0,[]⟩:Request),Ab) else k1 Aa.2.fWay Aa.2.fPallet.fW Aa.2.fPallet.fD Aa.2.fPallet.fH Aa.2.fPallet.fGram Aa.2.fClasses Aa.2.fPairs Aa.2.fTypes Aa.2.fMaster Aa.2.fItems Aa.1 (w64 (Ab + 1)) else bif (decide (Ag < 5)) then some ((⟨0,(⟨0,0,0,0⟩:Pallet),0,[],[],0,[]⟩:Request),w64 (((x5.length:Int)) - 1)) else obind (ix x5 (w64 (((x5.length:Int)) - 1))) fun Ap=>bif (!(Ap.toList == ((⟨#[]⟩:ByteArray)).toList)) then some ((⟨0,(⟨0,0,0,0⟩:Pallet),0,[],[],0,[]⟩:Request),w64 (((x5.length:Int)) - 1)) else some ((⟨Am,(⟨Ae,Ad,Af,Ah⟩:Pallet),Ac,Ai,Ao,Ak,Aj⟩:Request),(-1))
def d_impl_ReadOrder_L1 (fu:Nat)  (x5:(List ByteArray)) (Aa:List ByteArray):Nat → Int → Int → Int → Int → Int → Int → List Pair → List Typ → Int → List Item → Int → Int → Option (Request × Int)
  | 0=>fun _ _ _ _ _ _ _ _ _ _ _ _=>none
  | n + 1=>d_impl_ReadOrder_L1_B fu x5 Aa (d_impl_ReadOrder_L1 fu x5 Aa n)

def d_impl_ReadOrder (fu:Nat) (Ab:ByteArray):Option (Request × Int) :=
  obind (d_impl_Parts fu Ab 10) fun x5=>bif (decide ((w64 (((x5.length:Int)) - 1)) > 60)) then some ((⟨0,(⟨0,0,0,0⟩:Pallet),0,[],[],0,[]⟩:Request),60) else obind (sls x5 0 (w64 (((x5.length:Int)) - 1))) fun Aa=>d_impl_ReadOrder_L1 fu x5 Aa fu 0 0 0 0 0 0 (([]:List Pair)) (([]:List Typ)) 0 (([]:List Item)) ((-1)) 0

def d_impl_TypeById_1 (fu:Nat) (t1:Typ) (x2:Int):Option (Bool) :=
  some (t1.fId == x2)

def d_slices_IndexFunc_impl_Type_impl_Type_L1_B (fu:Nat)  (Ab:List Typ) (f5:Typ → Option Bool) (k1:Int → Option (Int)) (Aa:Int):Option (Int) :=
  bif (decide (Aa < ((Ab.length:Int)))) then obind (ix Ab Aa) fun Ac=>obind (f5 Ac) fun Ad=>bif Ad then some (Aa) else k1 (w64 (Aa + 1)) else some ((-1))
def d_slices_IndexFunc_impl_Type_impl_Type_L1 (fu:Nat)  (Aa:List Typ) (f5:Typ → Option Bool):Nat → Int → Option (Int)
  | 0=>fun _=>none
  | n + 1=>d_slices_IndexFunc_impl_Type_impl_Type_L1_B fu Aa f5 (d_slices_IndexFunc_impl_Type_impl_Type_L1 fu Aa f5 n)

def d_slices_IndexFunc_impl_Type_impl_Type (fu:Nat) (Aa:List Typ) (f5:Typ → Option Bool):Option (Int) :=
  d_slices_IndexFunc_impl_Type_impl_Type_L1 fu Aa f5 fu 0

def d_impl_TypeById (fu:Nat) (r1:Request) (Ab:Int):Option (Typ × Bool) :=
  obind (d_slices_IndexFunc_impl_Type_impl_Type fu r1.fTypes (fun Ad=>d_impl_TypeById_1 fu Ad Ab)) fun Aa=>bif (decide (Aa < 0)) then some ((⟨0,0,0,0,0,0,0⟩:Typ),false) else obind (ix r1.fTypes Aa) fun Ac=>some (Ac,true)

def d_impl_MasterOf (fu:Nat) (r1:Request):Option (Typ × Bool) :=
  obind (d_impl_TypeById fu r1 r1.fMaster) fun Aa=>some (Aa.1,Aa.2)

def d_impl_isSide (fu:Nat) (n1:Int):Option (Bool) :=
  obind (d_impl_in fu n1 1 2000) fun x2=>some (x2)

def d_impl_PalletOk (fu:Nat) (x1:Pallet):Option (Bool) :=
  obind (d_impl_isSide fu x1.fW) fun x5=>bif x5 then obind (d_impl_isSide fu x1.fD) fun Ac=>bif Ac then obind (d_impl_isSide fu x1.fH) fun Aa=>bif Aa then obind (d_impl_in fu x1.fGram 1 100000) fun Ab=>some (Ab) else some (false) else some (false) else some (false)

def d_slices_IndexFunc_impl_Pair_impl_Pair_L1_B (fu:Nat)  (Ab:List Pair) (f5:Pair → Option Bool) (k1:Int → Option (Int)) (Aa:Int):Option (Int) :=
  bif (decide (Aa < ((Ab.length:Int)))) then obind (ix Ab Aa) fun Ac=>obind (f5 Ac) fun Ad=>bif Ad then some (Aa) else k1 (w64 (Aa + 1)) else some ((-1))
def d_slices_IndexFunc_impl_Pair_impl_Pair_L1 (fu:Nat)  (Aa:List Pair) (f5:Pair → Option Bool):Nat → Int → Option (Int)
  | 0=>fun _=>none
  | n + 1=>d_slices_IndexFunc_impl_Pair_impl_Pair_L1_B fu Aa f5 (d_slices_IndexFunc_impl_Pair_impl_Pair_L1 fu Aa f5 n)

def d_slices_IndexFunc_impl_Pair_impl_Pair (fu:Nat) (Aa:List Pair) (f5:Pair → Option Bool):Option (Int) :=
  d_slices_IndexFunc_impl_Pair_impl_Pair_L1 fu Aa f5 fu 0

def d_slices_ContainsFunc_impl_Pair_impl_Pair (fu:Nat) (Aa:List Pair) (f5:Pair → Option Bool):Option (Bool) :=
  obind (d_slices_IndexFunc_impl_Pair_impl_Pair fu Aa f5) fun Ab=>some (decide (Ab ≥ 0))

def d_impl_BoundsOk_1 (fu:Nat) (p1:Pair):Option (Bool) :=
  obind (d_impl_in fu p1.fA 0 3) fun x5=>bif (!x5) then some (true) else obind (d_impl_in fu p1.fB 0 3) fun Aa=>some (!Aa)

def d_slices_ContainsFunc_impl_Type_impl_Type (fu:Nat) (Aa:List Typ) (f5:Typ → Option Bool):Option (Bool) :=
  obind (d_slices_IndexFunc_impl_Type_impl_Type fu Aa f5) fun Ab=>some (decide (Ab ≥ 0))

def d_impl_TypeOk (fu:Nat) (x1:Typ):Option (Bool) :=
  obind (d_impl_in fu x1.fId 0 999) fun x5=>bif x5 then obind (d_impl_isSide fu x1.fW) fun Ab=>bif Ab then obind (d_impl_isSide fu x1.fH) fun Ae=>bif Ae then obind (d_impl_isSide fu x1.fD) fun Ad=>bif Ad then obind (d_impl_in fu x1.fTare 0 100000) fun Ac=>bif Ac then obind (d_impl_in fu x1.fGram 1 100000) fun Af=>bif Af then obind (d_impl_in fu x1.fCost 0 100000) fun Aa=>some (Aa) else some (false) else some (false) else some (false) else some (false) else some (false) else some (false)

def d_impl_BoundsOk_2 (fu:Nat) (t1:Typ):Option (Bool) :=
  obind (d_impl_TypeOk fu t1) fun x5=>some (!x5)

def d_impl_ItemOk (fu:Nat) (x1:Item):Option (Bool) :=
  obind (d_impl_in fu x1.fId 0 999) fun x5=>bif x5 then obind (d_impl_isSide fu x1.fW) fun Ab=>bif Ab then obind (d_impl_isSide fu x1.fH) fun Ae=>bif Ae then obind (d_impl_isSide fu x1.fD) fun Ad=>bif Ad then obind (d_impl_in fu x1.fGram 1 100000) fun Ac=>bif Ac then obind (d_impl_in fu x1.fClass 0 3) fun Af=>bif Af then obind (d_impl_in fu x1.fCount 1 6) fun Aa=>some (Aa) else some (false) else some (false) else some (false) else some (false) else some (false) else some (false)

def d_impl_BoundsOk_L1_B (fu:Nat)  (r1:Request) (k3:Int → Int → Option (Bool)) (Ac:Int) (Aa:Int):Option (Bool) :=
  bif (decide (Aa < ((r1.fItems.length:Int)))) then obind (ix r1.fItems Aa) fun Ab=>obind (d_impl_ItemOk fu Ab) fun Ad=>bif (!Ad) then some (false) else k3 (w64 (Ac + Ab.fCount)) (w64 (Aa + 1)) else some (decide (Ac ≤ 12))
def d_impl_BoundsOk_L1 (fu:Nat)  (r1:Request):Nat → Int → Int → Option (Bool)
  | 0=>fun _ _=>none
  | n + 1=>d_impl_BoundsOk_L1_B fu r1 (d_impl_BoundsOk_L1 fu r1 n)

def d_impl_BoundsOk_J1 (fu:Nat) (r1:Request)  : Option (Bool) :=
  d_impl_BoundsOk_L1 fu r1 fu 0 0

def d_impl_BoundsOk_J2 (fu:Nat) (r1:Request)  : Option (Bool) :=
  obind (d_slices_ContainsFunc_impl_Pair_impl_Pair fu r1.fPairs (fun Aa=>d_impl_BoundsOk_1 fu Aa)) fun Ad=>bif Ad then some (false) else obind (d_impl_in fu ((r1.fTypes.length:Int)) 1 5) fun Af=>bif (!Af) then some (false) else obind (d_slices_ContainsFunc_impl_Type_impl_Type fu r1.fTypes (fun Ae=>d_impl_BoundsOk_2 fu Ae)) fun Ab=>bif Ab then some (false) else obind (d_impl_in fu r1.fMaster 0 999) fun Ac=>bif (!Ac) then some (false) else bif (decide (((r1.fItems.length:Int)) > 8)) then some (false) else d_impl_BoundsOk_J1 fu r1

def d_impl_BoundsOk (fu:Nat) (r1:Request):Option (Bool) :=
  obind (d_impl_in fu r1.fWay 0 1) fun Ac=>bif (!Ac) then some (false) else obind (d_impl_PalletOk fu r1.fPallet) fun Aa=>bif (!Aa) then some (false) else obind (d_impl_in fu r1.fClasses 1 4) fun Ab=>bif (!Ab) then some (false) else bif (decide (((r1.fPairs.length:Int)) > 16)) then some (false) else d_impl_BoundsOk_J2 fu r1

def d_impl_namesOk_1 (fu:Nat) (q1:Typ) (x2:Typ):Option (Bool) :=
  some (q1.fId == x2.fId)

def d_impl_namesOk_2 (fu:Nat) (q1:Item) (x2:Item):Option (Bool) :=
  some (q1.fId == x2.fId)

def d_slices_IndexFunc_impl_Item_impl_Item_L1_B (fu:Nat)  (Ab:List Item) (f5:Item → Option Bool) (k1:Int → Option (Int)) (Aa:Int):Option (Int) :=
  bif (decide (Aa < ((Ab.length:Int)))) then obind (ix Ab Aa) fun Ac=>obind (f5 Ac) fun Ad=>bif Ad then some (Aa) else k1 (w64 (Aa + 1)) else some ((-1))
def d_slices_IndexFunc_impl_Item_impl_Item_L1 (fu:Nat)  (Aa:List Item) (f5:Item → Option Bool):Nat → Int → Option (Int)
  | 0=>fun _=>none
  | n + 1=>d_slices_IndexFunc_impl_Item_impl_Item_L1_B fu Aa f5 (d_slices_IndexFunc_impl_Item_impl_Item_L1 fu Aa f5 n)

def d_slices_IndexFunc_impl_Item_impl_Item (fu:Nat) (Aa:List Item) (f5:Item → Option Bool):Option (Int) :=
  d_slices_IndexFunc_impl_Item_impl_Item_L1 fu Aa f5 fu 0

def d_slices_ContainsFunc_impl_Item_impl_Item (fu:Nat) (Aa:List Item) (f5:Item → Option Bool):Option (Bool) :=
  obind (d_slices_IndexFunc_impl_Item_impl_Item fu Aa f5) fun Ab=>some (decide (Ab ≥ 0))

def d_impl_namesOk_3 (fu:Nat) (p1:Pair) (x2:Request):Option (Bool) :=
  bif (decide (p1.fA ≥ x2.fClasses)) then some (true) else some (decide (p1.fB ≥ x2.fClasses))

def d_impl_namesOk_J1 (fu:Nat) (k4:Int → Option (Bool)) (Aa:Int)  : Option (Bool) :=
  k4 (w64 (Aa + 1))

def d_impl_namesOk_L1_B (fu:Nat)  (r1:Request) (k4:Int → Option (Bool)) (Aa:Int):Option (Bool) :=
  bif (decide (Aa < ((r1.fItems.length:Int)))) then obind (ix r1.fItems Aa) fun Ab=>bif (decide (Ab.fClass ≥ r1.fClasses)) then some (false) else obind (sls r1.fItems 0 Aa) fun Ag=>obind (d_slices_ContainsFunc_impl_Item_impl_Item fu Ag (fun Ac=>d_impl_namesOk_2 fu Ac Ab)) fun Af=>bif Af then some (false) else d_impl_namesOk_J1 fu k4 Aa else obind (d_impl_MasterOf fu r1) fun Ae=>bif Ae.2 then obind (d_slices_ContainsFunc_impl_Pair_impl_Pair fu r1.fPairs (fun Ad=>d_impl_namesOk_3 fu Ad r1)) fun Ah=>some (!Ah) else some (false)
def d_impl_namesOk_L1 (fu:Nat)  (r1:Request):Nat → Int → Option (Bool)
  | 0=>fun _=>none
  | n + 1=>d_impl_namesOk_L1_B fu r1 (d_impl_namesOk_L1 fu r1 n)

def d_impl_namesOk_L2_B (fu:Nat)  (r1:Request) (k1:Int → Option (Bool)) (Aa:Int):Option (Bool) :=
  bif (decide (Aa < ((r1.fTypes.length:Int)))) then obind (ix r1.fTypes Aa) fun Ac=>obind (sls r1.fTypes 0 Aa) fun Ab=>obind (d_slices_ContainsFunc_impl_Type_impl_Type fu Ab (fun Ad=>d_impl_namesOk_1 fu Ad Ac)) fun Ae=>bif Ae then some (false) else k1 (w64 (Aa + 1)) else d_impl_namesOk_L1 fu r1 fu 0
def d_impl_namesOk_L2 (fu:Nat)  (r1:Request):Nat → Int → Option (Bool)
  | 0=>fun _=>none
  | n + 1=>d_impl_namesOk_L2_B fu r1 (d_impl_namesOk_L2 fu r1 n)

def d_impl_namesOk (fu:Nat) (r1:Request):Option (Bool) :=
  d_impl_namesOk_L2 fu r1 fu 0

def d_slices_Index_impl_Pair_impl_Pair_L1_B (fu:Nat)  (Ab:List Pair) (v5:Pair) (k1:Int → Option (Int)) (Aa:Int):Option (Int) :=
  bif (decide (Aa < ((Ab.length:Int)))) then obind (ix Ab Aa) fun Ac=>bif (decide (v5 = Ac)) then some (Aa) else k1 (w64 (Aa + 1)) else some ((-1))
def d_slices_Index_impl_Pair_impl_Pair_L1 (fu:Nat)  (Aa:List Pair) (v5:Pair):Nat → Int → Option (Int)
  | 0=>fun _=>none
  | n + 1=>d_slices_Index_impl_Pair_impl_Pair_L1_B fu Aa v5 (d_slices_Index_impl_Pair_impl_Pair_L1 fu Aa v5 n)

def d_slices_Index_impl_Pair_impl_Pair (fu:Nat) (Aa:List Pair) (v5:Pair):Option (Int) :=
  d_slices_Index_impl_Pair_impl_Pair_L1 fu Aa v5 fu 0

def d_slices_Contains_impl_Pair_impl_Pair (fu:Nat) (Aa:List Pair) (v5:Pair):Option (Bool) :=
  obind (d_slices_Index_impl_Pair_impl_Pair fu Aa v5) fun Ab=>some (decide (Ab ≥ 0))

def d_impl_Beside (fu:Nat) (Aa:List Pair) (a5:Int) (b6:Int):Option (Bool) :=
  obind (d_slices_Contains_impl_Pair_impl_Pair fu Aa ((⟨a5,b6⟩:Pair))) fun x7=>some (x7)

def d_impl_TableOk_L1_B (fu:Nat) (k3:Int → Option (Bool)) (Ac:List Pair) (Ad:Int) (Ab:Int) (k4:Int → Option (Bool)) (Aa:Int):Option (Bool) :=
  bif (decide (Aa < Ad)) then obind (d_impl_Beside fu Ac Ab Aa) fun Ae=>obind (d_impl_Beside fu Ac Aa Ab) fun Af=>bif (!(Ae == Af)) then some (false) else k4 (w64 (Aa + 1)) else k3 (w64 (Ab + 1))
def d_impl_TableOk_L1 (fu:Nat) (k3:Int → Option (Bool)) (Ab:List Pair) (Ac:Int) (Aa:Int):Nat → Int → Option (Bool)
  | 0=>fun _=>none
  | n + 1=>d_impl_TableOk_L1_B fu k3 Ab Ac Aa (d_impl_TableOk_L1 fu k3 Ab Ac Aa n)

def d_impl_TableOk_L2_B (fu:Nat)  (Ab:List Pair) (Ac:Int) (k3:Int → Option (Bool)) (Aa:Int):Option (Bool) :=
  bif (decide (Aa < Ac)) then obind (d_impl_Beside fu Ab Aa Aa) fun Ad=>bif (!Ad) then some (false) else d_impl_TableOk_L1 fu k3 Ab Ac Aa fu 0 else some (true)
def d_impl_TableOk_L2 (fu:Nat)  (Aa:List Pair) (Ab:Int):Nat → Int → Option (Bool)
  | 0=>fun _=>none
  | n + 1=>d_impl_TableOk_L2_B fu Aa Ab (d_impl_TableOk_L2 fu Aa Ab n)

def d_impl_TableOk (fu:Nat) (Ab:List Pair) (Aa:Int):Option (Bool) :=
  obind (d_impl_in fu Aa 1 4) fun x6=>bif (!x6) then some (false) else d_impl_TableOk_L2 fu Ab Aa fu 0

def d_slices_Sort_int_int (fu:Nat) (x1:List Int):Option (List Int):=sortI x1

def d_impl_Fits_J1 (fu:Nat) (x1:Item) (t2:Typ) (Ad:List Int) (Ai:List Int):Option (Bool) :=
  obind (d_slices_Sort_int_int fu Ad) fun Ab=>obind (d_slices_Sort_int_int fu Ai) fun Aa=>obind (ix Ab 0) fun Ag=>obind (ix Aa 0) fun Ah=>bif (decide (Ag ≤ Ah)) then obind (ix Ab 1) fun Ac=>obind (ix Aa 1) fun Af=>bif (decide (Ac ≤ Af)) then obind (ix Ab 2) fun Ae=>obind (ix Aa 2) fun Aj=>bif (decide (Ae ≤ Aj)) then some (decide (x1.fGram ≤ t2.fGram)) else some (false) else some (false) else some (false)

def d_impl_Fits (fu:Nat) (x1:Item) (t2:Typ):Option (Bool) :=
  d_impl_Fits_J1 fu x1 t2 (([x1.fW,x1.fH,x1.fD]:List Int)) (([t2.fW,t2.fH,t2.fD]:List Int))

def d_impl_Class_1 (fu:Nat) (x1:Item) (x2:Typ):Option (Bool) :=
  obind (d_impl_Fits fu x1 x2) fun x8=>some (!x8)

def d_impl_Class_2 (fu:Nat) (t1:Typ) (x2:Pallet):Option (Bool) :=
  bif (decide (t1.fW > x2.fW)) then some (true) else bif (decide (t1.fD > x2.fD)) then some (true) else bif (decide (t1.fH > x2.fH)) then some (true) else some (decide ((w64 (t1.fTare + t1.fGram)) > x2.fGram))

def d_impl_Class (fu:Nat) (r1:Request):Option (Int) :=
  obind (d_impl_MasterOf fu r1) fun Ac=>obind (d_impl_BoundsOk fu r1) fun Ah=>bif (!Ah) then some (2) else obind (d_impl_namesOk fu r1) fun Ab=>bif (!Ab) then some (3) else obind (d_impl_TableOk fu r1.fPairs r1.fClasses) fun Aa=>bif (!Aa) then some (4) else obind (d_slices_ContainsFunc_impl_Item_impl_Item fu r1.fItems (fun Ag=>d_impl_Class_1 fu Ag Ac.1)) fun Ae=>bif Ae then some (5) else obind (d_slices_ContainsFunc_impl_Type_impl_Type fu r1.fTypes (fun Ad=>d_impl_Class_2 fu Ad r1.fPallet)) fun Af=>bif Af then some (6) else some (0)

def d_impl_ClassOf (fu:Nat) (Ab:ByteArray):Option (Int) :=
  obind (d_impl_ReadOrder fu Ab) fun x2=>bif (decide (x2.2 ≥ 0)) then some (1) else obind (d_impl_Class fu x2.1) fun Aa=>some (Aa)

def d_impl_sound (fu:Nat) (r1:Request):Option (Bool) :=
  obind (d_impl_Class fu r1) fun Aa=>some (Aa == 0)

def d_slices_Clone_int_int (fu:Nat) (Ab:List Int):Option ((List Int)) :=
  obind (apnd 8 (([]:List Int)) Ab) fun Aa=>some (Aa)

def d_slices_Compact_int_int (fu:Nat) (x1:List Int):Option (List Int):=cmpI x1

def d_impl_kinds (fu:Nat) (Ac:List Int):Option ((List Int)) :=
  obind (d_slices_Clone_int_int fu Ac) fun x5=>obind (d_slices_Sort_int_int fu x5) fun Aa=>obind (d_slices_Compact_int_int fu Aa) fun Ab=>some (Ab)

def d_impl_Present_L1_B (fu:Nat)  (r1:Request) (k1:List Int → Int → Option ((List Int))) (Ab:List Int) (Aa:Int):Option ((List Int)) :=
  bif (decide (Aa < ((r1.fItems.length:Int)))) then obind (ix r1.fItems Aa) fun Ae=>obind (apnd 8 Ab (([Ae.fClass]:List Int))) fun Ac=>k1 Ac (w64 (Aa + 1)) else obind (d_impl_kinds fu Ab) fun Ad=>some (Ad)
def d_impl_Present_L1 (fu:Nat)  (r1:Request):Nat → List Int → Int → Option ((List Int))
  | 0=>fun _ _=>none
  | n + 1=>d_impl_Present_L1_B fu r1 (d_impl_Present_L1 fu r1 n)

def d_impl_Present (fu:Nat) (r1:Request):Option ((List Int)) :=
  obind (d_impl_sound fu r1) fun Aa=>bif (!Aa) then some (([]:List Int)) else d_impl_Present_L1 fu r1 fu (([]:List Int)) 0

def d_impl_mutual (fu:Nat) (Aa:List Pair) (a5:Int) (b6:Int):Option (Bool) :=
  obind (d_impl_Beside fu Aa a5 b6) fun x7=>bif x7 then obind (d_impl_Beside fu Aa b6 a5) fun Ab=>some (Ab) else some (false)

def d_impl_Groups_1_1 (fu:Nat) (x1:Int) (x2:List Pair) (x8:Int):Option (Bool) :=
  obind (d_impl_mutual fu x2 x8 x1) fun Aa=>some (!Aa)

def d_slices_IndexFunc_int_int_L1_B (fu:Nat)  (Ab:List Int) (f5:Int → Option Bool) (k1:Int → Option (Int)) (Aa:Int):Option (Int) :=
  bif (decide (Aa < ((Ab.length:Int)))) then obind (ix Ab Aa) fun Ac=>obind (f5 Ac) fun Ad=>bif Ad then some (Aa) else k1 (w64 (Aa + 1)) else some ((-1))
def d_slices_IndexFunc_int_int_L1 (fu:Nat)  (Aa:List Int) (f5:Int → Option Bool):Nat → Int → Option (Int)
  | 0=>fun _=>none
  | n + 1=>d_slices_IndexFunc_int_int_L1_B fu Aa f5 (d_slices_IndexFunc_int_int_L1 fu Aa f5 n)

def d_slices_IndexFunc_int_int (fu:Nat) (Aa:List Int) (f5:Int → Option Bool):Option (Int) :=
  d_slices_IndexFunc_int_int_L1 fu Aa f5 fu 0

def d_slices_ContainsFunc_int_int (fu:Nat) (Aa:List Int) (f5:Int → Option Bool):Option (Bool) :=
  obind (d_slices_IndexFunc_int_int fu Aa f5) fun Ab=>some (decide (Ab ≥ 0))

def d_impl_Groups_1 (fu:Nat) (l1:List Int) (x5:List Pair) (Aa:Int):Option (Bool) :=
  obind (d_slices_ContainsFunc_int_int fu l1 (fun Ab=>d_impl_Groups_1_1 fu Ab x5 Aa)) fun Ac=>some (!Ac)

def d_slices_IndexFunc_ints_int_L1_B (fu:Nat)  (Ab:List (List Int)) (f5:(List Int) → Option Bool) (k1:Int → Option (Int)) (Aa:Int):Option (Int) :=
  bif (decide (Aa < ((Ab.length:Int)))) then obind (ix Ab Aa) fun Ad=>obind (f5 Ad) fun Ac=>bif Ac then some (Aa) else k1 (w64 (Aa + 1)) else some ((-1))
def d_slices_IndexFunc_ints_int_L1 (fu:Nat)  (Aa:List (List Int)) (f5:(List Int) → Option Bool):Nat → Int → Option (Int)
  | 0=>fun _=>none
  | n + 1=>d_slices_IndexFunc_ints_int_L1_B fu Aa f5 (d_slices_IndexFunc_ints_int_L1 fu Aa f5 n)

def d_slices_IndexFunc_ints_int (fu:Nat) (Aa:List (List Int)) (f5:(List Int) → Option Bool):Option (Int) :=
  d_slices_IndexFunc_ints_int_L1 fu Aa f5 fu 0

def d_impl_Groups_J1 (fu:Nat) (k3:List (List Int) → Int → Option ((List (List Int)))) (Aa:Int) (Ab:List (List Int)):Option ((List (List Int))) :=
  k3 Ab (w64 (Aa + 1))

def d_impl_Groups_L1_B (fu:Nat)  (Ah:List Pair) (Ae:(List Int)) (k3:List (List Int) → Int → Option ((List (List Int)))) (Aa:List (List Int)) (Ab:Int):Option ((List (List Int))) :=
  bif (decide (Ab < ((Ae.length:Int)))) then obind (ix Ae Ab) fun Ad=>obind (d_impl_in fu Ad 0 3) fun Ak=>bif (!Ak) then d_impl_Groups_J1 fu k3 Ab Aa else obind (d_slices_IndexFunc_ints_int fu Aa (fun Af=>d_impl_Groups_1 fu Af Ah Ad)) fun Ac=>bif (decide (Ac < 0)) then obind (apnd 24 Aa [([Ad]:List Int)]) fun Aj=>d_impl_Groups_J1 fu k3 Ab Aj else obind (ix Aa Ac) fun Ai=>obind (apnd 8 Ai (([Ad]:List Int))) fun Ag=>obind (ix Aa Ac) fun Al=>d_impl_Groups_J1 fu k3 Ab (setx Aa Ac Ag) else some (Aa)
def d_impl_Groups_L1 (fu:Nat)  (Aa:List Pair) (Ab:(List Int)):Nat → List (List Int) → Int → Option ((List (List Int)))
  | 0=>fun _ _=>none
  | n + 1=>d_impl_Groups_L1_B fu Aa Ab (d_impl_Groups_L1 fu Aa Ab n)

def d_impl_Groups (fu:Nat) (Ab:List Pair) (Aa:List Int):Option ((List (List Int))) :=
  obind (d_impl_kinds fu Aa) fun Ac=>d_impl_Groups_L1 fu Ab Ac fu (([]:List (List Int))) 0

def d_impl_GroupsOf (fu:Nat) (r1:Request):Option ((List (List Int))) :=
  obind (d_impl_sound fu r1) fun Ac=>bif (!Ac) then some (([]:List (List Int))) else obind (d_impl_Present fu r1) fun Ab=>obind (d_impl_Groups fu r1.fPairs Ab) fun Aa=>some (Aa)

def d_bits_Mul64 (fu:Nat) (x1:Int) (y2:Int):Option (Int × Int) :=
  some (IntKind.wrap .u64 ((IntKind.wrap .u64 ((IntKind.wrap .u64 ((Int.fdiv x1 (2 ^ (min 32 (IntKind.bits .u64)))) * (Int.fdiv y2 (2 ^ (min 32 (IntKind.bits .u64)))))) + (Int.fdiv (IntKind.wrap .u64 ((IntKind.wrap .u64 ((Int.fdiv x1 (2 ^ (min 32 (IntKind.bits .u64)))) * (IntKind.wrap .u64 (((BitVec.ofInt (IntKind.bits .u64) y2 &&& BitVec.ofInt (IntKind.bits .u64) 4294967295).toNat:Nat):Int)))) + (Int.fdiv (IntKind.wrap .u64 ((IntKind.wrap .u64 (((BitVec.ofInt (IntKind.bits .u64) x1 &&& BitVec.ofInt (IntKind.bits .u64) 4294967295).toNat:Nat):Int)) * (IntKind.wrap .u64 (((BitVec.ofInt (IntKind.bits .u64) y2 &&& BitVec.ofInt (IntKind.bits .u64) 4294967295).toNat:Nat):Int)))) (2 ^ (min 32 (IntKind.bits .u64)))))) (2 ^ (min 32 (IntKind.bits .u64)))))) + (Int.fdiv (IntKind.wrap .u64 ((IntKind.wrap .u64 (((BitVec.ofInt (IntKind.bits .u64) (IntKind.wrap .u64 ((IntKind.wrap .u64 ((Int.fdiv x1 (2 ^ (min 32 (IntKind.bits .u64)))) * (IntKind.wrap .u64 (((BitVec.ofInt (IntKind.bits .u64) y2 &&& BitVec.ofInt (IntKind.bits .u64) 4294967295).toNat:Nat):Int)))) + (Int.fdiv (IntKind.wrap .u64 ((IntKind.wrap .u64 (((BitVec.ofInt (IntKind.bits .u64) x1 &&& BitVec.ofInt (IntKind.bits .u64) 4294967295).toNat:Nat):Int)) * (IntKind.wrap .u64 (((BitVec.ofInt (IntKind.bits .u64) y2 &&& BitVec.ofInt (IntKind.bits .u64) 4294967295).toNat:Nat):Int)))) (2 ^ (min 32 (IntKind.bits .u64)))))) &&& BitVec.ofInt (IntKind.bits .u64) 4294967295).toNat:Nat):Int)) + (IntKind.wrap .u64 ((IntKind.wrap .u64 (((BitVec.ofInt (IntKind.bits .u64) x1 &&& BitVec.ofInt (IntKind.bits .u64) 4294967295).toNat:Nat):Int)) * (Int.fdiv y2 (2 ^ (min 32 (IntKind.bits .u64)))))))) (2 ^ (min 32 (IntKind.bits .u64))))),IntKind.wrap .u64 (x1 * y2))

def d_bits_Mul (fu:Nat) (x1:Int) (y2:Int):Option (Int × Int) :=
  obind (d_bits_Mul64 fu x1 y2) fun x3=>some (x3.1,x3.2)

def d_slices_Repeat_int_int_L1_B (fu:Nat)   (k3:List Int → Int → Option ((List Int))) (Aa:List Int) (Ab:Int):Option ((List Int)) :=
  bif (decide (Ab < ((Aa.length:Int)))) then obind (sls Aa Ab (Aa.length:Int)) fun Ad=>obind (sls Aa 0 Ab) fun Ac=>k3 (cpd Aa Ab Ac) (w64 (Ab + (cpn Aa Ab Ac))) else some (Aa)
def d_slices_Repeat_int_int_L1 (fu:Nat)   : Nat → List Int → Int → Option ((List Int))
  | 0=>fun _ _=>none
  | n + 1=>d_slices_Repeat_int_int_L1_B fu  (d_slices_Repeat_int_int_L1 fu  n)

def d_slices_Repeat_int_int_J1 (fu:Nat) (x1:List Int) (x8:Int × Int)  : Option ((List Int)) :=
  obind (mk 8 (0:Int) (w64 x8.2)) fun Aa=>d_slices_Repeat_int_int_L1 fu fu (cpd Aa 0 x1) (cpn Aa 0 x1)

def d_slices_Repeat_int_int_J2 (fu:Nat) (x1:List Int) (Aa:Int)  : Option ((List Int)) :=
  obind (d_bits_Mul fu (IntKind.wrap .u64 ((x1.length:Int))) (IntKind.wrap .u64 Aa)) fun x8=>bif (decide (x8.1 > 0)) then none else bif (decide (x8.2 > 9223372036854775807)) then none else d_slices_Repeat_int_int_J1 fu x1 x8

def d_slices_Repeat_int_int (fu:Nat) (x1:List Int) (Aa:Int):Option ((List Int)) :=
  bif (decide (Aa < 0)) then none else d_slices_Repeat_int_int_J2 fu x1 Aa

def d_impl_Units_L1_B (fu:Nat)  (r1:Request) (k1:List Int → Int → Option ((List Int))) (Ab:List Int) (Aa:Int):Option ((List Int)) :=
  bif (decide (Aa < ((r1.fItems.length:Int)))) then obind (ix r1.fItems Aa) fun Ae=>obind (d_slices_Repeat_int_int fu (([Aa]:List Int)) Ae.fCount) fun Ad=>obind (apnd 8 Ab Ad) fun Ac=>k1 Ac (w64 (Aa + 1)) else some (Ab)
def d_impl_Units_L1 (fu:Nat)  (r1:Request):Nat → List Int → Int → Option ((List Int))
  | 0=>fun _ _=>none
  | n + 1=>d_impl_Units_L1_B fu r1 (d_impl_Units_L1 fu r1 n)

def d_impl_Units (fu:Nat) (r1:Request):Option ((List Int)) :=
  obind (d_impl_sound fu r1) fun Aa=>bif (!Aa) then some (([]:List Int)) else d_impl_Units_L1 fu r1 fu (([]:List Int)) 0

def d_slices_Index_int_int_L1_B (fu:Nat)  (Ab:List Int) (v5:Int) (k1:Int → Option (Int)) (Aa:Int):Option (Int) :=
  bif (decide (Aa < ((Ab.length:Int)))) then obind (ix Ab Aa) fun Ac=>bif (v5 == Ac) then some (Aa) else k1 (w64 (Aa + 1)) else some ((-1))
def d_slices_Index_int_int_L1 (fu:Nat)  (Aa:List Int) (v5:Int):Nat → Int → Option (Int)
  | 0=>fun _=>none
  | n + 1=>d_slices_Index_int_int_L1_B fu Aa v5 (d_slices_Index_int_int_L1 fu Aa v5 n)

def d_slices_Index_int_int (fu:Nat) (Aa:List Int) (v5:Int):Option (Int) :=
  d_slices_Index_int_int_L1 fu Aa v5 fu 0

def d_slices_Contains_int_int (fu:Nat) (Aa:List Int) (v5:Int):Option (Bool) :=
  obind (d_slices_Index_int_int fu Aa v5) fun x6=>some (decide (x6 ≥ 0))

def d_impl_UnitsOf_J1 (fu:Nat) (k3:List Int → Int → Option ((List Int))) (Ab:Int) (Aa:List Int):Option ((List Int)) :=
  k3 Aa (w64 (Ab + 1))

def d_impl_UnitsOf_L1_B (fu:Nat)  (r1:Request) (Ad:Int) (Ag:(List (List Int))) (Ac:(List Int)) (k3:List Int → Int → Option ((List Int))) (Ab:List Int) (Aa:Int):Option ((List Int)) :=
  bif (decide (Aa < ((Ac.length:Int)))) then obind (ix Ac Aa) fun Ai=>obind (ix Ag Ad) fun Ae=>obind (ix r1.fItems Ai) fun Ah=>obind (d_slices_Contains_int_int fu Ae Ah.fClass) fun Aj=>bif Aj then obind (apnd 8 Ab (([Aa]:List Int))) fun Af=>d_impl_UnitsOf_J1 fu k3 Aa Af else d_impl_UnitsOf_J1 fu k3 Aa Ab else some (Ab)
def d_impl_UnitsOf_L1 (fu:Nat)  (r1:Request) (Ac:Int) (Ab:(List (List Int))) (Aa:(List Int)):Nat → List Int → Int → Option ((List Int))
  | 0=>fun _ _=>none
  | n + 1=>d_impl_UnitsOf_L1_B fu r1 Ac Ab Aa (d_impl_UnitsOf_L1 fu r1 Ac Ab Aa n)

def d_impl_UnitsOf (fu:Nat) (r1:Request) (Ab:Int):Option ((List Int)) :=
  obind (d_impl_GroupsOf fu r1) fun Aa=>obind (d_impl_in fu Ab 0 (w64 (((Aa.length:Int)) - 1))) fun Ad=>bif (!Ad) then some (([]:List Int)) else obind (d_impl_Units fu r1) fun Ac=>d_impl_UnitsOf_L1 fu r1 Ab Aa Ac fu (([]:List Int)) 0

def d_impl_thereOf_1 (fu:Nat) (u1:Int) (x2:Int):Option (Bool) :=
  obind (d_impl_in fu u1 0 (w64 (x2 - 1))) fun x5=>some (!x5)

def d_slices_DeleteFunc_int_int_J1 (fu:Nat) (k3:List Int → Int → Int → Option ((List Int))) (Ac:Int) (Ab:List Int) (Aa:Int):Option ((List Int)) :=
  k3 Ab Aa (w64 (Ac + 1))

def d_slices_DeleteFunc_int_int_L1_B (fu:Nat)  (f5:Int → Option Bool) (k3:List Int → Int → Int → Option ((List Int))) (Aa:List Int) (Ab:Int) (Ac:Int):Option ((List Int)) :=
  bif (decide (Ac < ((Aa.length:Int)))) then obind (ix Aa Ac) fun Ad=>obind (f5 Ad) fun Af=>bif (!Af) then obind (ix Aa Ab) fun Ah=>d_slices_DeleteFunc_int_int_J1 fu k3 Ac (setx Aa Ab Ad) (w64 (Ab + 1)) else d_slices_DeleteFunc_int_int_J1 fu k3 Ac Aa Ab else obind (sls Aa Ab (Aa.length:Int)) fun Ag=>obind (sls (clrd Aa Ab) 0 Ab) fun Ae=>some (Ae)
def d_slices_DeleteFunc_int_int_L1 (fu:Nat)  (f5:Int → Option Bool):Nat → List Int → Int → Int → Option ((List Int))
  | 0=>fun _ _ _=>none
  | n + 1=>d_slices_DeleteFunc_int_int_L1_B fu f5 (d_slices_DeleteFunc_int_int_L1 fu f5 n)

def d_slices_DeleteFunc_int_int (fu:Nat) (Aa:List Int) (f5:Int → Option Bool):Option ((List Int)) :=
  obind (d_slices_IndexFunc_int_int fu Aa f5) fun Ab=>bif (Ab == ((-1))) then some (Aa) else d_slices_DeleteFunc_int_int_L1 fu f5 fu Aa Ab (w64 (Ab + 1))

def d_impl_thereOf (fu:Nat) (r1:Request) (Ab:List Int):Option ((List Int)) :=
  obind (d_impl_Units fu r1) fun Ad=>obind (d_slices_Clone_int_int fu Ab) fun Ac=>obind (d_slices_DeleteFunc_int_int fu Ac (fun Aa=>d_impl_thereOf_1 fu Aa ((Ad.length:Int)))) fun Ae=>some (Ae)

def d_impl_itemsOf_J1 (fu:Nat) (k3:List Item → Int → Option ((List Item))) (Aa:Int) (Ab:List Item):Option ((List Item)) :=
  k3 Ab (w64 (Aa + 1))

def d_impl_itemsOf_L1_B (fu:Nat)  (r1:Request) (Ac:List Int) (Ad:(List Int)) (k3:List Item → Int → Option ((List Item))) (Ab:List Item) (Aa:Int):Option ((List Item)) :=
  bif (decide (Aa < ((Ac.length:Int)))) then obind (ix Ac Aa) fun Ae=>obind (d_impl_in fu Ae 0 (w64 (((Ad.length:Int)) - 1))) fun Af=>bif Af then obind (ix Ad Ae) fun Ag=>obind (ix r1.fItems Ag) fun Ah=>obind (apnd 56 Ab (([Ah]:List Item))) fun Ai=>d_impl_itemsOf_J1 fu k3 Aa Ai else d_impl_itemsOf_J1 fu k3 Aa Ab else some (Ab)
def d_impl_itemsOf_L1 (fu:Nat)  (r1:Request) (Aa:List Int) (Ab:(List Int)):Nat → List Item → Int → Option ((List Item))
  | 0=>fun _ _=>none
  | n + 1=>d_impl_itemsOf_L1_B fu r1 Aa Ab (d_impl_itemsOf_L1 fu r1 Aa Ab n)

def d_impl_itemsOf (fu:Nat) (r1:Request) (Aa:List Int):Option ((List Item)) :=
  obind (d_impl_Units fu r1) fun Ab=>d_impl_itemsOf_L1 fu r1 Aa Ab fu (([]:List Item)) 0

def d_impl_Volume_J1 (fu:Nat) (Aa:Int) (h2:Int) (d3:Int)  : Option (Int) :=
  some (w64 ((w64 (Aa * h2)) * d3))

def d_impl_Volume (fu:Nat) (Aa:Int) (h2:Int) (d3:Int):Option (Int) :=
  obind (d_impl_in fu Aa 0 2000) fun Ad=>bif (!Ad) then some (0) else obind (d_impl_in fu h2 0 2000) fun Ab=>bif (!Ab) then some (0) else obind (d_impl_in fu d3 0 2000) fun Ac=>bif (!Ac) then some (0) else d_impl_Volume_J1 fu Aa h2 d3

def d_impl_VolumeOf_L1_B (fu:Nat)  (Ad:(List Item)) (k1:Int → Int → Option (Int)) (Ac:Int) (Ab:Int):Option (Int) :=
  bif (decide (Ab < ((Ad.length:Int)))) then obind (ix Ad Ab) fun Aa=>obind (d_impl_Volume fu Aa.fW Aa.fH Aa.fD) fun Ae=>k1 (w64 (Ac + Ae)) (w64 (Ab + 1)) else some (Ac)
def d_impl_VolumeOf_L1 (fu:Nat)  (Aa:(List Item)):Nat → Int → Int → Option (Int)
  | 0=>fun _ _=>none
  | n + 1=>d_impl_VolumeOf_L1_B fu Aa (d_impl_VolumeOf_L1 fu Aa n)

def d_impl_VolumeOf (fu:Nat) (r1:Request) (Aa:List Int):Option (Int) :=
  obind (d_impl_itemsOf fu r1 Aa) fun Ab=>d_impl_VolumeOf_L1 fu Ab fu 0 0

def d_impl_GramOf_L1_B (fu:Nat)  (Ac:(List Item)) (k1:Int → Int → Option (Int)) (Ab:Int) (Aa:Int):Option (Int) :=
  bif (decide (Aa < ((Ac.length:Int)))) then obind (ix Ac Aa) fun Ad=>k1 (w64 (Ab + Ad.fGram)) (w64 (Aa + 1)) else some (Ab)
def d_impl_GramOf_L1 (fu:Nat)  (Aa:(List Item)):Nat → Int → Int → Option (Int)
  | 0=>fun _ _=>none
  | n + 1=>d_impl_GramOf_L1_B fu Aa (d_impl_GramOf_L1 fu Aa n)

def d_impl_GramOf (fu:Nat) (r1:Request) (Aa:List Int):Option (Int) :=
  obind (d_impl_itemsOf fu r1 Aa) fun Ab=>d_impl_GramOf_L1 fu Ab fu 0 0

def d_impl_within (fu:Nat) (r1:Request) (Aa:List Int) (t9:Typ):Option (Bool) :=
  obind (d_impl_VolumeOf fu r1 Aa) fun Ac=>obind (d_impl_Volume fu t9.fW t9.fH t9.fD) fun Ad=>bif (decide (Ac ≤ Ad)) then obind (d_impl_GramOf fu r1 Aa) fun Ab=>some (decide (Ab ≤ t9.fGram)) else some (false)

def d_impl_Room (fu:Nat) (r1:Request) (Ab:List Int) (u9:Int):Option (Bool) :=
  obind (d_impl_MasterOf fu r1) fun Aa=>obind (d_impl_sound fu r1) fun Af=>bif Af then obind (d_slices_Clone_int_int fu Ab) fun Ad=>obind (apnd 8 Ad (([u9]:List Int))) fun Ae=>obind (d_impl_within fu r1 Ae Aa.1) fun Ac=>some (Ac) else some (false)

def d_impl_NextFit_J1 (fu:Nat) (k3:List (List Int) → Int → Option ((List (List Int)))) (Ab:Int) (Aa:List (List Int)):Option ((List (List Int))) :=
  k3 Aa (w64 (Ab + 1))

def d_impl_NextFit_L1_B (fu:Nat)  (r1:Request) (Ad:(List Int)) (k3:List (List Int) → Int → Option ((List (List Int)))) (Aa:List (List Int)) (Ab:Int):Option ((List (List Int))) :=
  bif (decide (Ab < ((Ad.length:Int)))) then obind (ix Ad Ab) fun Ac=>bif (decide ((w64 (((Aa.length:Int)) - 1)) ≥ 0)) then obind (ix Aa (w64 (((Aa.length:Int)) - 1))) fun Ae=>obind (d_impl_Room fu r1 Ae Ac) fun Ah=>bif Ah then obind (ix Aa (w64 (((Aa.length:Int)) - 1))) fun Aj=>obind (apnd 8 Ae (([Ac]:List Int))) fun Ag=>obind (ix Aa (w64 (((Aa.length:Int)) - 1))) fun Ak=>d_impl_NextFit_J1 fu k3 Ab (setx Aa (w64 (((Aa.length:Int)) - 1)) Ag) else obind (apnd 24 Aa [([Ac]:List Int)]) fun Af=>d_impl_NextFit_J1 fu k3 Ab Af else obind (apnd 24 Aa [([Ac]:List Int)]) fun Ai=>d_impl_NextFit_J1 fu k3 Ab Ai else some (Aa)
def d_impl_NextFit_L1 (fu:Nat)  (r1:Request) (Aa:(List Int)):Nat → List (List Int) → Int → Option ((List (List Int)))
  | 0=>fun _ _=>none
  | n + 1=>d_impl_NextFit_L1_B fu r1 Aa (d_impl_NextFit_L1 fu r1 Aa n)

def d_impl_NextFit (fu:Nat) (r1:Request) (Aa:List Int):Option ((List (List Int))) :=
  obind (d_impl_thereOf fu r1 Aa) fun Ab=>d_impl_NextFit_L1 fu r1 Ab fu (([]:List (List Int))) 0

def d_impl_places_L1_B (fu:Nat)  (n1:Int) (k1:List Int → Int → Option ((List Int))) (Ab:List Int) (Aa:Int):Option ((List Int)) :=
  bif (decide (Aa < n1)) then obind (apnd 8 Ab (([Aa]:List Int))) fun Ac=>k1 Ac (w64 (Aa + 1)) else some (Ab)
def d_impl_places_L1 (fu:Nat)  (n1:Int):Nat → List Int → Int → Option ((List Int))
  | 0=>fun _ _=>none
  | n + 1=>d_impl_places_L1_B fu n1 (d_impl_places_L1 fu n1 n)

def d_impl_places (fu:Nat) (n1:Int):Option ((List Int)) :=
  d_impl_places_L1 fu n1 fu (([]:List Int)) 0

def d_impl_compare (fu:Nat) (a1:Int) (b2:Int):Option (Int) :=
  bif (decide (a1 < b2)) then some ((-1)) else bif (decide (a1 > b2)) then some (1) else some (0)

def d_impl_SortDown_1 (fu:Nat) (i1:Int) (j2:Int) (x3:List Int):Option (Int) :=
  obind (ix x3 j2) fun Ac=>obind (ix x3 i1) fun Aa=>obind (d_impl_compare fu Ac Aa) fun Ab=>some (Ab)

def d_slices_insertionSortCmpFunc_int_J1 (fu:Nat) (Ad:List Int → Int → Option ((List Int))) (Ab:List Int) (Aa:Int)  : Option ((List Int)) :=
  obind (ix Ab (w64 (Aa - 1))) fun Ac=>obind (ix Ab Aa) fun Ae=>obind (ix Ab Aa) fun Ag=>obind (ix (setx Ab Aa Ac) (w64 (Aa - 1))) fun Af=>Ad (setx (setx Ab Aa Ac) (w64 (Aa - 1)) Ae) (w64 (Aa - 1))

def d_slices_insertionSortCmpFunc_int_L1_B (fu:Nat) (k9:List Int → Int → Option ((List Int))) (a5:Int) (f7:Int → Int → Option Int) (Ac:Int) (Ae:List Int → Int → Option ((List Int))) (Aa:List Int) (Ab:Int):Option ((List Int)) :=
  bif (decide (Ab > a5)) then obind (ix Aa Ab) fun Ad=>obind (ix Aa (w64 (Ab - 1))) fun Af=>obind (f7 Ad Af) fun Ag=>bif (decide (Ag < 0)) then d_slices_insertionSortCmpFunc_int_J1 fu Ae Aa Ab else k9 Aa (w64 (Ac + 1)) else k9 Aa (w64 (Ac + 1))
def d_slices_insertionSortCmpFunc_int_L1 (fu:Nat) (k9:List Int → Int → Option ((List Int))) (a5:Int) (f7:Int → Int → Option Int) (Aa:Int):Nat → List Int → Int → Option ((List Int))
  | 0=>fun _ _=>none
  | n + 1=>d_slices_insertionSortCmpFunc_int_L1_B fu k9 a5 f7 Aa (d_slices_insertionSortCmpFunc_int_L1 fu k9 a5 f7 Aa n)

def d_slices_insertionSortCmpFunc_int_L2_B (fu:Nat)  (a5:Int) (b6:Int) (f7:Int → Int → Option Int) (k9:List Int → Int → Option ((List Int))) (Ab:List Int) (Aa:Int):Option ((List Int)) :=
  bif (decide (Aa < b6)) then d_slices_insertionSortCmpFunc_int_L1 fu k9 a5 f7 Aa fu Ab Aa else some (Ab)
def d_slices_insertionSortCmpFunc_int_L2 (fu:Nat)  (a5:Int) (b6:Int) (f7:Int → Int → Option Int):Nat → List Int → Int → Option ((List Int))
  | 0=>fun _ _=>none
  | n + 1=>d_slices_insertionSortCmpFunc_int_L2_B fu a5 b6 f7 (d_slices_insertionSortCmpFunc_int_L2 fu a5 b6 f7 n)

def d_slices_insertionSortCmpFunc_int (fu:Nat) (Aa:List Int) (a5:Int) (b6:Int) (f7:Int → Int → Option Int):Option ((List Int)) :=
  d_slices_insertionSortCmpFunc_int_L2 fu a5 b6 f7 fu Aa (w64 (a5 + 1))

def d_slices_symMergeCmpFunc_int (fu:Nat) (x0:List Int) (x1:Int) (x2:Int) (x3:Int) (x4:Int → Int → Option Int):Option ((List Int)):=none

def d_slices_stableCmpFunc_int_J1 (fu:Nat) (k6:List Int → Int → Option ((List Int))) (Aa:Int) (Ab:List Int):Option ((List Int)) :=
  k6 Ab (w64 (Aa * 2))

def d_slices_stableCmpFunc_int_L1_B (fu:Nat) (k6:List Int → Int → Option ((List Int))) (n5:Int) (f6:Int → Int → Option Int) (Aa:Int) (k7:List Int → Int → Int → Option ((List Int))) (Ad:List Int) (Ab:Int) (Ac:Int):Option ((List Int)) :=
  bif (decide (Ac ≤ n5)) then obind (d_slices_symMergeCmpFunc_int fu Ad Ab (w64 (Ab + Aa)) Ac f6) fun Ae=>k7 Ae Ac (w64 (Ac + (w64 (2 * Aa)))) else bif (decide ((w64 (Ab + Aa)) < n5)) then obind (d_slices_symMergeCmpFunc_int fu Ad Ab (w64 (Ab + Aa)) n5 f6) fun Af=>d_slices_stableCmpFunc_int_J1 fu k6 Aa Af else d_slices_stableCmpFunc_int_J1 fu k6 Aa Ad
def d_slices_stableCmpFunc_int_L1 (fu:Nat) (k6:List Int → Int → Option ((List Int))) (n5:Int) (f6:Int → Int → Option Int) (Aa:Int):Nat → List Int → Int → Int → Option ((List Int))
  | 0=>fun _ _ _=>none
  | n + 1=>d_slices_stableCmpFunc_int_L1_B fu k6 n5 f6 Aa (d_slices_stableCmpFunc_int_L1 fu k6 n5 f6 Aa n)

def d_slices_stableCmpFunc_int_L2_B (fu:Nat)  (n5:Int) (f6:Int → Int → Option Int) (k6:List Int → Int → Option ((List Int))) (Ab:List Int) (Aa:Int):Option ((List Int)) :=
  bif (decide (Aa < n5)) then d_slices_stableCmpFunc_int_L1 fu k6 n5 f6 Aa fu Ab 0 (w64 (2 * Aa)) else some (Ab)
def d_slices_stableCmpFunc_int_L2 (fu:Nat)  (n5:Int) (f6:Int → Int → Option Int):Nat → List Int → Int → Option ((List Int))
  | 0=>fun _ _=>none
  | n + 1=>d_slices_stableCmpFunc_int_L2_B fu n5 f6 (d_slices_stableCmpFunc_int_L2 fu n5 f6 n)

def d_slices_stableCmpFunc_int_L3_B (fu:Nat)  (n5:Int) (f6:Int → Int → Option Int) (k1:List Int → Int → Int → Option ((List Int))) (Ac:List Int) (Ab:Int) (Aa:Int):Option ((List Int)) :=
  bif (decide (Aa ≤ n5)) then obind (d_slices_insertionSortCmpFunc_int fu Ac Ab Aa f6) fun Ae=>k1 Ae Aa (w64 (Aa + 20)) else obind (d_slices_insertionSortCmpFunc_int fu Ac Ab n5 f6) fun Ad=>d_slices_stableCmpFunc_int_L2 fu n5 f6 fu Ad 20
def d_slices_stableCmpFunc_int_L3 (fu:Nat)  (n5:Int) (f6:Int → Int → Option Int):Nat → List Int → Int → Int → Option ((List Int))
  | 0=>fun _ _ _=>none
  | n + 1=>d_slices_stableCmpFunc_int_L3_B fu n5 f6 (d_slices_stableCmpFunc_int_L3 fu n5 f6 n)

def d_slices_stableCmpFunc_int (fu:Nat) (Aa:List Int) (n5:Int) (f6:Int → Int → Option Int):Option ((List Int)) :=
  d_slices_stableCmpFunc_int_L3 fu n5 f6 fu Aa 0 20

def d_slices_SortStableFunc_int_int (fu:Nat) (x1:List Int) (f5:Int → Int → Option Int):Option ((List Int)) :=
  obind (d_slices_stableCmpFunc_int fu x1 ((x1.length:Int)) f5) fun Aa=>some (Aa)

def d_impl_SortDown (fu:Nat) (Aa:List Int):Option ((List Int)) :=
  obind (d_impl_places fu ((Aa.length:Int))) fun x8=>obind (d_slices_SortStableFunc_int_int fu x8 (fun Ad Ac=>d_impl_SortDown_1 fu Ad Ac Aa)) fun Ab=>some (Ab)

def d_impl_FirstFit_1 (fu:Nat) (l1:List Int) (x5:Request) (Aa:Int):Option (Bool) :=
  obind (d_impl_Room fu x5 l1 Aa) fun Ab=>some (Ab)

def d_impl_FirstFit_J1 (fu:Nat) (k4:List (List Int) → Int → Option ((List (List Int)))) (Ab:Int) (Aa:List (List Int)):Option ((List (List Int))) :=
  k4 Aa (w64 (Ab + 1))

def d_impl_FirstFit_L1_B (fu:Nat)  (r1:Request) (Aj:(List Int)) (Ae:(List Int)) (k4:List (List Int) → Int → Option ((List (List Int)))) (Aa:List (List Int)) (Ac:Int):Option ((List (List Int))) :=
  bif (decide (Ac < ((Ae.length:Int)))) then obind (ix Ae Ac) fun Ag=>obind (ix Aj Ag) fun Ad=>obind (d_slices_IndexFunc_ints_int fu Aa (fun Ah=>d_impl_FirstFit_1 fu Ah r1 Ad)) fun Ab=>bif (decide (Ab < 0)) then obind (apnd 24 Aa [([Ad]:List Int)]) fun Ai=>d_impl_FirstFit_J1 fu k4 Ac Ai else obind (ix Aa Ab) fun Af=>obind (apnd 8 Af (([Ad]:List Int))) fun Ak=>obind (ix Aa Ab) fun Al=>d_impl_FirstFit_J1 fu k4 Ac (setx Aa Ab Ak) else some (Aa)
def d_impl_FirstFit_L1 (fu:Nat)  (r1:Request) (Ab:(List Int)) (Aa:(List Int)):Nat → List (List Int) → Int → Option ((List (List Int)))
  | 0=>fun _ _=>none
  | n + 1=>d_impl_FirstFit_L1_B fu r1 Ab Aa (d_impl_FirstFit_L1 fu r1 Ab Aa n)

def d_impl_FirstFit_L2_B (fu:Nat)  (r1:Request) (Aa:(List Int)) (k1:List Int → Int → Option ((List (List Int)))) (Ac:List Int) (Ab:Int):Option ((List (List Int))) :=
  bif (decide (Ab < ((Aa.length:Int)))) then obind (ix Aa Ab) fun Ae=>obind (d_impl_VolumeOf fu r1 (([Ae]:List Int))) fun Af=>obind (apnd 8 Ac (([Af]:List Int))) fun Ag=>k1 Ag (w64 (Ab + 1)) else obind (d_impl_SortDown fu Ac) fun Ad=>d_impl_FirstFit_L1 fu r1 Aa Ad fu (([]:List (List Int))) 0
def d_impl_FirstFit_L2 (fu:Nat)  (r1:Request) (Aa:(List Int)):Nat → List Int → Int → Option ((List (List Int)))
  | 0=>fun _ _=>none
  | n + 1=>d_impl_FirstFit_L2_B fu r1 Aa (d_impl_FirstFit_L2 fu r1 Aa n)

def d_impl_FirstFit (fu:Nat) (r1:Request) (Aa:List Int):Option ((List (List Int))) :=
  obind (d_impl_thereOf fu r1 Aa) fun Ab=>d_impl_FirstFit_L2 fu r1 Ab fu (([]:List Int)) 0

def d_impl_PackWay (fu:Nat) (r1:Request) (Aa:List Int):Option ((List (List Int))) :=
  bif (r1.fWay == 1) then obind (d_impl_NextFit fu r1 Aa) fun Ab=>some (Ab) else obind (d_impl_FirstFit fu r1 Aa) fun Ac=>some (Ac)

def d_impl_Holds_1 (fu:Nat) (x1:Item) (x2:Typ):Option (Bool) :=
  obind (d_impl_Fits fu x1 x2) fun x8=>some (!x8)

def d_impl_Holds_J1 (fu:Nat) (r1:Request) (Aa:List Int) (t9:Typ)  : Option (Bool) :=
  obind (d_impl_itemsOf fu r1 Aa) fun Ab=>obind (d_slices_ContainsFunc_impl_Item_impl_Item fu Ab (fun Ac=>d_impl_Holds_1 fu Ac t9)) fun Ae=>bif (!Ae) then obind (d_impl_within fu r1 Aa t9) fun Ad=>some (Ad) else some (false)

def d_impl_Holds (fu:Nat) (r1:Request) (Aa:List Int) (t9:Typ):Option (Bool) :=
  obind (d_impl_sound fu r1) fun Ab=>bif (!Ab) then some (false) else obind (d_impl_thereOf fu r1 Aa) fun Ac=>bif (((Ac.length:Int)) != ((Aa.length:Int))) then some (false) else d_impl_Holds_J1 fu r1 Aa t9

def d_impl_Cheapest_J1 (fu:Nat) (k3:Typ → Bool → Int → Option (Typ × Bool)) (Aa:Int) (Ab:Typ) (Ac:Bool):Option (Typ × Bool) :=
  k3 Ab Ac (w64 (Aa + 1))

def d_impl_Cheapest_L1_B (fu:Nat)  (r1:Request) (Ae:List Int) (k3:Typ → Bool → Int → Option (Typ × Bool)) (Ac:Typ) (Ad:Bool) (Aa:Int):Option (Typ × Bool) :=
  bif (decide (Aa < ((r1.fTypes.length:Int)))) then obind (ix r1.fTypes Aa) fun Ab=>obind (d_impl_Holds fu r1 Ae Ab) fun Af=>bif (!Af) then d_impl_Cheapest_J1 fu k3 Aa Ac Ad else bif (!Ad) then d_impl_Cheapest_J1 fu k3 Aa Ab true else bif (decide (Ab.fCost < Ac.fCost)) then d_impl_Cheapest_J1 fu k3 Aa Ab true else bif (Ab.fCost == Ac.fCost) then bif (decide (Ab.fId < Ac.fId)) then d_impl_Cheapest_J1 fu k3 Aa Ab true else d_impl_Cheapest_J1 fu k3 Aa Ac Ad else d_impl_Cheapest_J1 fu k3 Aa Ac Ad else some (Ac,Ad)
def d_impl_Cheapest_L1 (fu:Nat)  (r1:Request) (Aa:List Int):Nat → Typ → Bool → Int → Option (Typ × Bool)
  | 0=>fun _ _ _=>none
  | n + 1=>d_impl_Cheapest_L1_B fu r1 Aa (d_impl_Cheapest_L1 fu r1 Aa n)

def d_impl_Cheapest (fu:Nat) (r1:Request) (Aa:List Int):Option (Typ × Bool) :=
  d_impl_Cheapest_L1 fu r1 Aa fu ((⟨0,0,0,0,0,0,0⟩:Typ)) false 0

def d_impl_CartonsOf_L1_B (fu:Nat) (k3:List Carton → Int → Option ((List Carton))) (r1:Request) (Ab:Int) (Ac:(List (List Int))) (k4:List Carton → Int → Option ((List Carton))) (Ad:List Carton) (Aa:Int):Option ((List Carton)) :=
  bif (decide (Aa < ((Ac.length:Int)))) then obind (ix Ac Aa) fun Ae=>obind (d_impl_Cheapest fu r1 Ae) fun Af=>obind (d_slices_Sort_int_int fu Ae) fun Ah=>obind (apnd 40 Ad [(⟨Af.1.fId,Ab,Ah⟩:Carton)]) fun Ag=>k4 Ag (w64 (Aa + 1)) else k3 Ad (w64 (Ab + 1))
def d_impl_CartonsOf_L1 (fu:Nat) (k3:List Carton → Int → Option ((List Carton))) (r1:Request) (Aa:Int) (Ab:(List (List Int))):Nat → List Carton → Int → Option ((List Carton))
  | 0=>fun _ _=>none
  | n + 1=>d_impl_CartonsOf_L1_B fu k3 r1 Aa Ab (d_impl_CartonsOf_L1 fu k3 r1 Aa Ab n)

def d_impl_CartonsOf_L2_B (fu:Nat)  (r1:Request) (Ac:(List (List Int))) (k3:List Carton → Int → Option ((List Carton))) (Ab:List Carton) (Aa:Int):Option ((List Carton)) :=
  bif (decide (Aa < ((Ac.length:Int)))) then obind (d_impl_UnitsOf fu r1 Aa) fun Ad=>obind (d_impl_PackWay fu r1 Ad) fun Ae=>d_impl_CartonsOf_L1 fu k3 r1 Aa Ae fu Ab 0 else some (Ab)
def d_impl_CartonsOf_L2 (fu:Nat)  (r1:Request) (Aa:(List (List Int))):Nat → List Carton → Int → Option ((List Carton))
  | 0=>fun _ _=>none
  | n + 1=>d_impl_CartonsOf_L2_B fu r1 Aa (d_impl_CartonsOf_L2 fu r1 Aa n)

def d_impl_CartonsOf (fu:Nat) (r1:Request):Option ((List Carton)) :=
  obind (d_impl_GroupsOf fu r1) fun Aa=>d_impl_CartonsOf_L2 fu r1 Aa fu (([]:List Carton)) 0

def d_impl_Gross_J1 (fu:Nat) (r1:Request) (x5:Carton) (Ab:Typ × Bool)  : Option (Int) :=
  obind (d_impl_GramOf fu r1 x5.fUnits) fun Aa=>some (w64 (Ab.1.fTare + Aa))

def d_impl_Gross (fu:Nat) (r1:Request) (x5:Carton):Option (Int) :=
  obind (d_impl_TypeById fu r1 x5.fType) fun Aa=>bif (!Aa.2) then some (0) else obind (d_impl_sound fu r1) fun Ab=>bif (!Ab) then some (0) else d_impl_Gross_J1 fu r1 x5 Aa

def d_impl_BoxOf_J1 (fu:Nat) (r1:Request) (x5:Carton) (Aa:Typ × Bool)  : Option (Box) :=
  obind (d_impl_Gross fu r1 x5) fun Ab=>some ((⟨Aa.1.fW,Aa.1.fD,Aa.1.fH,Ab⟩:Box))

def d_impl_BoxOf (fu:Nat) (r1:Request) (x5:Carton):Option (Box) :=
  obind (d_impl_TypeById fu r1 x5.fType) fun Aa=>bif (!Aa.2) then some ((⟨0,0,0,0⟩:Box)) else obind (d_impl_sound fu r1) fun Ab=>bif (!Ab) then some ((⟨0,0,0,0⟩:Box)) else d_impl_BoxOf_J1 fu r1 x5 Aa

def d_impl_BoxesOk_1 (fu:Nat) (b1:Box) (x2:Pallet):Option (Bool) :=
  obind (d_impl_in fu b1.fW 1 x2.fW) fun x8=>bif (!x8) then some (true) else obind (d_impl_in fu b1.fD 1 x2.fD) fun Aa=>bif (!Aa) then some (true) else obind (d_impl_in fu b1.fH 1 x2.fH) fun Ac=>bif (!Ac) then some (true) else obind (d_impl_in fu b1.fGram 1 x2.fGram) fun Ab=>some (!Ab)

def d_slices_IndexFunc_impl_Box_impl_Box_L1_B (fu:Nat)  (Ab:List Box) (f5:Box → Option Bool) (k1:Int → Option (Int)) (Aa:Int):Option (Int) :=
  bif (decide (Aa < ((Ab.length:Int)))) then obind (ix Ab Aa) fun Ac=>obind (f5 Ac) fun Ad=>bif Ad then some (Aa) else k1 (w64 (Aa + 1)) else some ((-1))
def d_slices_IndexFunc_impl_Box_impl_Box_L1 (fu:Nat)  (Aa:List Box) (f5:Box → Option Bool):Nat → Int → Option (Int)
  | 0=>fun _=>none
  | n + 1=>d_slices_IndexFunc_impl_Box_impl_Box_L1_B fu Aa f5 (d_slices_IndexFunc_impl_Box_impl_Box_L1 fu Aa f5 n)

def d_slices_IndexFunc_impl_Box_impl_Box (fu:Nat) (Aa:List Box) (f5:Box → Option Bool):Option (Int) :=
  d_slices_IndexFunc_impl_Box_impl_Box_L1 fu Aa f5 fu 0

def d_slices_ContainsFunc_impl_Box_impl_Box (fu:Nat) (Aa:List Box) (f5:Box → Option Bool):Option (Bool) :=
  obind (d_slices_IndexFunc_impl_Box_impl_Box fu Aa f5) fun Ab=>some (decide (Ab ≥ 0))

def d_impl_BoxesOk (fu:Nat) (p1:Pallet) (Ac:List Box):Option (Bool) :=
  obind (d_impl_PalletOk fu p1) fun Ad=>bif Ad then obind (d_slices_ContainsFunc_impl_Box_impl_Box fu Ac (fun Ab=>d_impl_BoxesOk_1 fu Ab p1)) fun Aa=>some (!Aa) else some (false)

def d_impl_Shelves_J1 (fu:Nat) (k8:List Shelf → Int → Option ((List Shelf))) (Ab:Int) (Aa:List Shelf):Option ((List Shelf)) :=
  k8 Aa (w64 (Ab + 1))

def d_impl_Shelves_J2 (fu:Nat) (k8:List Shelf → Int → Option ((List Shelf))) (Ai:Int) (Ak:Int) (Ac:Box) (Ag:List Shelf) (Af:Int):Option ((List Shelf)) :=
  obind (ix Ag Af) fun Ab=>obind (apnd 8 Ab.fList (([Ak]:List Int))) fun Ad=>obind (some ((⟨((⟨Ad,Ab.fW,Ab.fD,Ab.fH,Ab.fGram⟩:Shelf)).fList,w64 ((((⟨Ad,Ab.fW,Ab.fD,Ab.fH,Ab.fGram⟩:Shelf)).fW) + Ac.fW),((⟨Ad,Ab.fW,Ab.fD,Ab.fH,Ab.fGram⟩:Shelf)).fD,((⟨Ad,Ab.fW,Ab.fD,Ab.fH,Ab.fGram⟩:Shelf)).fH,((⟨Ad,Ab.fW,Ab.fD,Ab.fH,Ab.fGram⟩:Shelf)).fGram⟩:Shelf))) fun Aa=>obind (some (setx (setx Ag Af ((⟨Ad,Ab.fW,Ab.fD,Ab.fH,Ab.fGram⟩:Shelf))) Af Aa)) fun Ah=>obind (some ((⟨((⟨Aa.fList,Aa.fW,if Ac.fD > Aa.fD then Ac.fD else Aa.fD,Aa.fH,Aa.fGram⟩:Shelf)).fList,((⟨Aa.fList,Aa.fW,if Ac.fD > Aa.fD then Ac.fD else Aa.fD,Aa.fH,Aa.fGram⟩:Shelf)).fW,((⟨Aa.fList,Aa.fW,if Ac.fD > Aa.fD then Ac.fD else Aa.fD,Aa.fH,Aa.fGram⟩:Shelf)).fD,if Ac.fH > (((⟨Aa.fList,Aa.fW,if Ac.fD > Aa.fD then Ac.fD else Aa.fD,Aa.fH,Aa.fGram⟩:Shelf)).fH) then Ac.fH else ((⟨Aa.fList,Aa.fW,if Ac.fD > Aa.fD then Ac.fD else Aa.fD,Aa.fH,Aa.fGram⟩:Shelf)).fH,((⟨Aa.fList,Aa.fW,if Ac.fD > Aa.fD then Ac.fD else Aa.fD,Aa.fH,Aa.fGram⟩:Shelf)).fGram⟩:Shelf))) fun Ae=>obind (some (setx (setx Ah Af ((⟨Aa.fList,Aa.fW,if Ac.fD > Aa.fD then Ac.fD else Aa.fD,Aa.fH,Aa.fGram⟩:Shelf))) Af Ae)) fun Aj=>d_impl_Shelves_J1 fu k8 Ai (setx Aj Af ((⟨Ae.fList,Ae.fW,Ae.fD,Ae.fH,w64 (Ae.fGram + Ac.fGram)⟩:Shelf)))

def d_impl_Shelves_L1_B (fu:Nat)  (p1:Pallet) (Aj:List Box) (Ae:(List Int)) (k8:List Shelf → Int → Option ((List Shelf))) (Aa:List Shelf) (Ac:Int):Option ((List Shelf)) :=
  bif (decide (Ac < ((Ae.length:Int)))) then obind (ix Ae Ac) fun Ad=>obind (ix Aj Ad) fun Ab=>bif (decide ((w64 (((Aa.length:Int)) - 1)) < 0)) then obind (apnd 56 Aa [(⟨[],0,0,0,0⟩:Shelf)]) fun Ag=>d_impl_Shelves_J2 fu k8 Ac Ad Ab Ag (w64 ((w64 (((Aa.length:Int)) - 1)) + 1)) else obind (ix Aa (w64 (((Aa.length:Int)) - 1))) fun Af=>bif (decide ((w64 (Af.fW + Ab.fW)) > p1.fW)) then obind (apnd 56 Aa [(⟨[],0,0,0,0⟩:Shelf)]) fun Ah=>d_impl_Shelves_J2 fu k8 Ac Ad Ab Ah (w64 ((w64 (((Aa.length:Int)) - 1)) + 1)) else obind (ix Aa (w64 (((Aa.length:Int)) - 1))) fun Ak=>bif (decide ((w64 (Af.fGram + Ab.fGram)) > p1.fGram)) then obind (apnd 56 Aa [(⟨[],0,0,0,0⟩:Shelf)]) fun Ai=>d_impl_Shelves_J2 fu k8 Ac Ad Ab Ai (w64 ((w64 (((Aa.length:Int)) - 1)) + 1)) else d_impl_Shelves_J2 fu k8 Ac Ad Ab Aa (w64 (((Aa.length:Int)) - 1)) else some (Aa)
def d_impl_Shelves_L1 (fu:Nat)  (p1:Pallet) (Ab:List Box) (Aa:(List Int)):Nat → List Shelf → Int → Option ((List Shelf))
  | 0=>fun _ _=>none
  | n + 1=>d_impl_Shelves_L1_B fu p1 Ab Aa (d_impl_Shelves_L1 fu p1 Ab Aa n)

def d_impl_Shelves_L2_B (fu:Nat)  (p1:Pallet) (Aa:List Box) (k1:List Int → Int → Option ((List Shelf))) (Ac:List Int) (Ab:Int):Option ((List Shelf)) :=
  bif (decide (Ab < ((Aa.length:Int)))) then obind (ix Aa Ab) fun Ad=>obind (apnd 8 Ac (([Ad.fD]:List Int))) fun Af=>k1 Af (w64 (Ab + 1)) else obind (d_impl_SortDown fu Ac) fun Ae=>d_impl_Shelves_L1 fu p1 Aa Ae fu (([]:List Shelf)) 0
def d_impl_Shelves_L2 (fu:Nat)  (p1:Pallet) (Aa:List Box):Nat → List Int → Int → Option ((List Shelf))
  | 0=>fun _ _=>none
  | n + 1=>d_impl_Shelves_L2_B fu p1 Aa (d_impl_Shelves_L2 fu p1 Aa n)

def d_impl_Shelves (fu:Nat) (p1:Pallet) (Aa:List Box):Option ((List Shelf)) :=
  obind (d_impl_BoxesOk fu p1 Aa) fun Ab=>bif (!Ab) then some (([]:List Shelf)) else d_impl_Shelves_L2 fu p1 Aa fu (([]:List Int)) 0

def d_impl_ShelvesOk_1 (fu:Nat) (Aa:Shelf) (x5:Pallet):Option (Bool) :=
  obind (d_impl_in fu Aa.fD 1 x5.fD) fun Ab=>bif (!Ab) then some (true) else obind (d_impl_in fu Aa.fH 1 x5.fH) fun Ad=>bif (!Ad) then some (true) else obind (d_impl_in fu Aa.fGram 1 x5.fGram) fun Ac=>some (!Ac)

def d_slices_IndexFunc_impl_Shelf_impl_Shelf_L1_B (fu:Nat)  (Ab:List Shelf) (f5:Shelf → Option Bool) (k1:Int → Option (Int)) (Aa:Int):Option (Int) :=
  bif (decide (Aa < ((Ab.length:Int)))) then obind (ix Ab Aa) fun Ad=>obind (f5 Ad) fun Ac=>bif Ac then some (Aa) else k1 (w64 (Aa + 1)) else some ((-1))
def d_slices_IndexFunc_impl_Shelf_impl_Shelf_L1 (fu:Nat)  (Aa:List Shelf) (f5:Shelf → Option Bool):Nat → Int → Option (Int)
  | 0=>fun _=>none
  | n + 1=>d_slices_IndexFunc_impl_Shelf_impl_Shelf_L1_B fu Aa f5 (d_slices_IndexFunc_impl_Shelf_impl_Shelf_L1 fu Aa f5 n)

def d_slices_IndexFunc_impl_Shelf_impl_Shelf (fu:Nat) (Aa:List Shelf) (f5:Shelf → Option Bool):Option (Int) :=
  d_slices_IndexFunc_impl_Shelf_impl_Shelf_L1 fu Aa f5 fu 0

def d_slices_ContainsFunc_impl_Shelf_impl_Shelf (fu:Nat) (Aa:List Shelf) (f5:Shelf → Option Bool):Option (Bool) :=
  obind (d_slices_IndexFunc_impl_Shelf_impl_Shelf fu Aa f5) fun Ab=>some (decide (Ab ≥ 0))

def d_impl_ShelvesOk (fu:Nat) (p1:Pallet) (Ac:List Shelf):Option (Bool) :=
  obind (d_impl_PalletOk fu p1) fun Ad=>bif Ad then obind (d_slices_ContainsFunc_impl_Shelf_impl_Shelf fu Ac (fun Ab=>d_impl_ShelvesOk_1 fu Ab p1)) fun Aa=>some (!Aa) else some (false)

def d_impl_LayersOf_J1 (fu:Nat) (k7:List Layer → Int → Option ((List Layer))) (Ab:Int) (Aa:List Layer):Option ((List Layer)) :=
  k7 Aa (w64 (Ab + 1))

def d_impl_LayersOf_J2 (fu:Nat) (k7:List Layer → Int → Option ((List Layer))) (Af:Int) (Ac:Shelf) (Ag:List Layer) (Ae:Int):Option ((List Layer)) :=
  obind (ix Ag Ae) fun Ab=>obind (apnd 8 Ab.fShelves (([Af]:List Int))) fun Ad=>obind (some ((⟨((⟨Ad,Ab.fD,Ab.fH,Ab.fGram⟩:Layer)).fShelves,w64 ((((⟨Ad,Ab.fD,Ab.fH,Ab.fGram⟩:Layer)).fD) + Ac.fD),((⟨Ad,Ab.fD,Ab.fH,Ab.fGram⟩:Layer)).fH,((⟨Ad,Ab.fD,Ab.fH,Ab.fGram⟩:Layer)).fGram⟩:Layer))) fun Aa=>obind (some (setx (setx Ag Ae ((⟨Ad,Ab.fD,Ab.fH,Ab.fGram⟩:Layer))) Ae Aa)) fun Ai=>obind (some ((⟨((⟨Aa.fShelves,Aa.fD,if Ac.fH > Aa.fH then Ac.fH else Aa.fH,Aa.fGram⟩:Layer)).fShelves,((⟨Aa.fShelves,Aa.fD,if Ac.fH > Aa.fH then Ac.fH else Aa.fH,Aa.fGram⟩:Layer)).fD,((⟨Aa.fShelves,Aa.fD,if Ac.fH > Aa.fH then Ac.fH else Aa.fH,Aa.fGram⟩:Layer)).fH,w64 ((((⟨Aa.fShelves,Aa.fD,if Ac.fH > Aa.fH then Ac.fH else Aa.fH,Aa.fGram⟩:Layer)).fGram) + Ac.fGram)⟩:Layer))) fun Aj=>obind (some (setx (setx Ai Ae ((⟨Aa.fShelves,Aa.fD,if Ac.fH > Aa.fH then Ac.fH else Aa.fH,Aa.fGram⟩:Layer))) Ae Aj)) fun Ah=>d_impl_LayersOf_J1 fu k7 Af Ah

def d_impl_LayersOf_L1_B (fu:Nat)  (p1:Pallet) (Ad:List Shelf) (k7:List Layer → Int → Option ((List Layer))) (Aa:List Layer) (Ab:Int):Option ((List Layer)) :=
  bif (decide (Ab < ((Ad.length:Int)))) then obind (ix Ad Ab) fun Ac=>bif (decide ((w64 (((Aa.length:Int)) - 1)) < 0)) then obind (apnd 48 Aa [(⟨[],0,0,0⟩:Layer)]) fun Ah=>d_impl_LayersOf_J2 fu k7 Ab Ac Ah (w64 ((w64 (((Aa.length:Int)) - 1)) + 1)) else obind (ix Aa (w64 (((Aa.length:Int)) - 1))) fun Ae=>bif (decide ((w64 (Ae.fD + Ac.fD)) > p1.fD)) then obind (apnd 48 Aa [(⟨[],0,0,0⟩:Layer)]) fun Af=>d_impl_LayersOf_J2 fu k7 Ab Ac Af (w64 ((w64 (((Aa.length:Int)) - 1)) + 1)) else obind (ix Aa (w64 (((Aa.length:Int)) - 1))) fun Ai=>bif (decide ((w64 (Ae.fGram + Ac.fGram)) > p1.fGram)) then obind (apnd 48 Aa [(⟨[],0,0,0⟩:Layer)]) fun Ag=>d_impl_LayersOf_J2 fu k7 Ab Ac Ag (w64 ((w64 (((Aa.length:Int)) - 1)) + 1)) else d_impl_LayersOf_J2 fu k7 Ab Ac Aa (w64 (((Aa.length:Int)) - 1)) else some (Aa)
def d_impl_LayersOf_L1 (fu:Nat)  (p1:Pallet) (Aa:List Shelf):Nat → List Layer → Int → Option ((List Layer))
  | 0=>fun _ _=>none
  | n + 1=>d_impl_LayersOf_L1_B fu p1 Aa (d_impl_LayersOf_L1 fu p1 Aa n)

def d_impl_LayersOf (fu:Nat) (p1:Pallet) (Aa:List Shelf):Option ((List Layer)) :=
  obind (d_impl_ShelvesOk fu p1 Aa) fun Ab=>bif (!Ab) then some (([]:List Layer)) else d_impl_LayersOf_L1 fu p1 Aa fu (([]:List Layer)) 0

def d_impl_StacksOk_1 (fu:Nat) (x1:Layer) (x5:Pallet):Option (Bool) :=
  obind (d_impl_in fu x1.fD 1 x5.fD) fun Aa=>bif (!Aa) then some (true) else obind (d_impl_in fu x1.fH 1 x5.fH) fun Ac=>bif (!Ac) then some (true) else obind (d_impl_in fu x1.fGram 1 x5.fGram) fun Ab=>some (!Ab)

def d_slices_IndexFunc_impl_Layer_impl_Layer_L1_B (fu:Nat)  (Ab:List Layer) (f5:Layer → Option Bool) (k1:Int → Option (Int)) (Aa:Int):Option (Int) :=
  bif (decide (Aa < ((Ab.length:Int)))) then obind (ix Ab Aa) fun Ad=>obind (f5 Ad) fun Ac=>bif Ac then some (Aa) else k1 (w64 (Aa + 1)) else some ((-1))
def d_slices_IndexFunc_impl_Layer_impl_Layer_L1 (fu:Nat)  (Aa:List Layer) (f5:Layer → Option Bool):Nat → Int → Option (Int)
  | 0=>fun _=>none
  | n + 1=>d_slices_IndexFunc_impl_Layer_impl_Layer_L1_B fu Aa f5 (d_slices_IndexFunc_impl_Layer_impl_Layer_L1 fu Aa f5 n)

def d_slices_IndexFunc_impl_Layer_impl_Layer (fu:Nat) (Aa:List Layer) (f5:Layer → Option Bool):Option (Int) :=
  d_slices_IndexFunc_impl_Layer_impl_Layer_L1 fu Aa f5 fu 0

def d_slices_ContainsFunc_impl_Layer_impl_Layer (fu:Nat) (Aa:List Layer) (f5:Layer → Option Bool):Option (Bool) :=
  obind (d_slices_IndexFunc_impl_Layer_impl_Layer fu Aa f5) fun Ab=>some (decide (Ab ≥ 0))

def d_impl_StacksOk (fu:Nat) (p1:Pallet) (Ac:List Layer):Option (Bool) :=
  obind (d_impl_PalletOk fu p1) fun Ad=>bif Ad then obind (d_slices_ContainsFunc_impl_Layer_impl_Layer fu Ac (fun Ab=>d_impl_StacksOk_1 fu Ab p1)) fun Aa=>some (!Aa) else some (false)

def d_impl_LoadsOf_J1 (fu:Nat) (k7:List Load → Int → Option ((List Load))) (Aa:Int) (Ab:List Load):Option ((List Load)) :=
  k7 Ab (w64 (Aa + 1))

def d_impl_LoadsOf_J2 (fu:Nat) (k7:List Load → Int → Option ((List Load))) (Ag:Int) (Ae:Layer) (Af:List Load) (Ad:Int):Option ((List Load)) :=
  obind (ix Af Ad) fun Aa=>obind (apnd 8 Aa.fLayers (([Ag]:List Int))) fun Ac=>obind (some ((⟨((⟨Ac,Aa.fH,Aa.fGram⟩:Load)).fLayers,w64 ((((⟨Ac,Aa.fH,Aa.fGram⟩:Load)).fH) + Ae.fH),((⟨Ac,Aa.fH,Aa.fGram⟩:Load)).fGram⟩:Load))) fun Ab=>obind (some (setx (setx Af Ad ((⟨Ac,Aa.fH,Aa.fGram⟩:Load))) Ad Ab)) fun Ah=>d_impl_LoadsOf_J1 fu k7 Ag (setx Ah Ad ((⟨Ab.fLayers,Ab.fH,w64 (Ab.fGram + Ae.fGram)⟩:Load)))

def d_impl_LoadsOf_L1_B (fu:Nat)  (p1:Pallet) (Ad:List Layer) (k7:List Load → Int → Option ((List Load))) (Aa:List Load) (Ac:Int):Option ((List Load)) :=
  bif (decide (Ac < ((Ad.length:Int)))) then obind (ix Ad Ac) fun Ab=>bif (decide ((w64 (((Aa.length:Int)) - 1)) < 0)) then obind (apnd 40 Aa [(⟨[],0,0⟩:Load)]) fun Ag=>d_impl_LoadsOf_J2 fu k7 Ac Ab Ag (w64 ((w64 (((Aa.length:Int)) - 1)) + 1)) else obind (ix Aa (w64 (((Aa.length:Int)) - 1))) fun Ae=>bif (decide ((w64 (Ae.fH + Ab.fH)) > p1.fH)) then obind (apnd 40 Aa [(⟨[],0,0⟩:Load)]) fun Af=>d_impl_LoadsOf_J2 fu k7 Ac Ab Af (w64 ((w64 (((Aa.length:Int)) - 1)) + 1)) else obind (ix Aa (w64 (((Aa.length:Int)) - 1))) fun Ai=>bif (decide ((w64 (Ae.fGram + Ab.fGram)) > p1.fGram)) then obind (apnd 40 Aa [(⟨[],0,0⟩:Load)]) fun Ah=>d_impl_LoadsOf_J2 fu k7 Ac Ab Ah (w64 ((w64 (((Aa.length:Int)) - 1)) + 1)) else d_impl_LoadsOf_J2 fu k7 Ac Ab Aa (w64 (((Aa.length:Int)) - 1)) else some (Aa)
def d_impl_LoadsOf_L1 (fu:Nat)  (p1:Pallet) (Aa:List Layer):Nat → List Load → Int → Option ((List Load))
  | 0=>fun _ _=>none
  | n + 1=>d_impl_LoadsOf_L1_B fu p1 Aa (d_impl_LoadsOf_L1 fu p1 Aa n)

def d_impl_LoadsOf (fu:Nat) (p1:Pallet) (Aa:List Layer):Option ((List Load)) :=
  obind (d_impl_StacksOk fu p1 Aa) fun Ab=>bif (!Ab) then some (([]:List Load)) else d_impl_LoadsOf_L1 fu p1 Aa fu (([]:List Load)) 0

def d_impl_SpotsOf_L1_B (fu:Nat) (Ag:List Spot → Int → Int → Option ((List Spot))) (Ai:List Box) (Ak:(List Shelf)) (Ap:Int) (Al:Int) (Af:Int) (Ao:Int) (Am:Int) (Ad:Shelf) (Ah:List Spot → Int → Int → Option ((List Spot))) (Ab:List Spot) (Ae:Int) (Ac:Int):Option ((List Spot)) :=
  bif (decide (Ac < ((Ad.fList.length:Int)))) then obind (ix Ad.fList Ac) fun Aa=>obind (ix Ab Aa) fun Ar=>obind (ix Ai Aa) fun Aq=>Ah (setx Ab Aa ((⟨Ap,Ae,Af,Al⟩:Spot))) (w64 (Ae + Aq.fW)) (w64 (Ac + 1)) else obind (ix Ak Am) fun Aj=>Ag Ab (w64 (Af + Aj.fD)) (w64 (Ao + 1))
def d_impl_SpotsOf_L1 (fu:Nat) (Aa:List Spot → Int → Int → Option ((List Spot))) (Ac:List Box) (Ad:(List Shelf)) (Ai:Int) (Ae:Int) (Ah:Int) (Ag:Int) (Af:Int) (Ab:Shelf):Nat → List Spot → Int → Int → Option ((List Spot))
  | 0=>fun _ _ _=>none
  | n + 1=>d_impl_SpotsOf_L1_B fu Aa Ac Ad Ai Ae Ah Ag Af Ab (d_impl_SpotsOf_L1 fu Aa Ac Ad Ai Ae Ah Ag Af Ab n)

def d_impl_SpotsOf_L2_B (fu:Nat) (Am:List Spot → Int → Int → Option ((List Spot))) (Aj:List Box) (Ac:(List Shelf)) (Ai:(List Layer)) (Aq:Int) (Ad:Int) (Ak:Int) (Ao:Int) (Af:Layer) (Ag:List Spot → Int → Int → Option ((List Spot))) (Ab:List Spot) (Ap:Int) (Aa:Int):Option ((List Spot)) :=
  bif (decide (Aa < ((Af.fShelves.length:Int)))) then obind (ix Af.fShelves Aa) fun Ae=>obind (ix Ac Ae) fun Ah=>d_impl_SpotsOf_L1 fu Ag Aj Ac Aq Ad Ap Aa Ae Ah fu Ab 0 0 else obind (ix Ai Ao) fun Al=>Am Ab (w64 (Ad + Al.fH)) (w64 (Ak + 1))
def d_impl_SpotsOf_L2 (fu:Nat) (Af:List Spot → Int → Int → Option ((List Spot))) (Ab:List Box) (Ad:(List Shelf)) (Aa:(List Layer)) (Ah:Int) (Ae:Int) (Ac:Int) (Ag:Int) (Ai:Layer):Nat → List Spot → Int → Int → Option ((List Spot))
  | 0=>fun _ _ _=>none
  | n + 1=>d_impl_SpotsOf_L2_B fu Af Ab Ad Aa Ah Ae Ac Ag Ai (d_impl_SpotsOf_L2 fu Af Ab Ad Aa Ah Ae Ac Ag Ai n)

def d_impl_SpotsOf_L3_B (fu:Nat) (Ag:List Spot → Int → Option ((List Spot))) (Ah:List Box) (Ai:(List Shelf)) (Ab:(List Layer)) (Ae:Int) (Ac:Load) (Ak:List Spot → Int → Int → Option ((List Spot))) (Af:List Spot) (Aj:Int) (Aa:Int):Option ((List Spot)) :=
  bif (decide (Aa < ((Ac.fLayers.length:Int)))) then obind (ix Ac.fLayers Aa) fun Ad=>obind (ix Ab Ad) fun Al=>d_impl_SpotsOf_L2 fu Ak Ah Ai Ab Ae Aj Aa Ad Al fu Af 0 0 else Ag Af (w64 (Ae + 1))
def d_impl_SpotsOf_L3 (fu:Nat) (Ab:List Spot → Int → Option ((List Spot))) (Ac:List Box) (Ad:(List Shelf)) (Aa:(List Layer)) (Af:Int) (Ae:Load):Nat → List Spot → Int → Int → Option ((List Spot))
  | 0=>fun _ _ _=>none
  | n + 1=>d_impl_SpotsOf_L3_B fu Ab Ac Ad Aa Af Ae (d_impl_SpotsOf_L3 fu Ab Ac Ad Aa Af Ae n)

def d_impl_SpotsOf_L4_B (fu:Nat)  (Af:List Box) (Ag:(List Shelf)) (Ad:(List Layer)) (Ac:(List Load)) (Ae:List Spot → Int → Option ((List Spot))) (Ab:List Spot) (Aa:Int):Option ((List Spot)) :=
  bif (decide (Aa < ((Ac.length:Int)))) then obind (ix Ac Aa) fun Ah=>d_impl_SpotsOf_L3 fu Ae Af Ag Ad Aa Ah fu Ab 0 0 else some (Ab)
def d_impl_SpotsOf_L4 (fu:Nat)  (Ad:List Box) (Ab:(List Shelf)) (Ac:(List Layer)) (Aa:(List Load)):Nat → List Spot → Int → Option ((List Spot))
  | 0=>fun _ _=>none
  | n + 1=>d_impl_SpotsOf_L4_B fu Ad Ab Ac Aa (d_impl_SpotsOf_L4 fu Ad Ab Ac Aa n)

def d_impl_SpotsOf (fu:Nat) (p1:Pallet) (Aa:List Box):Option ((List Spot)) :=
  obind (d_impl_BoxesOk fu p1 Aa) fun Af=>bif (!Af) then some (([]:List Spot)) else obind (d_impl_Shelves fu p1 Aa) fun Ac=>obind (d_impl_LayersOf fu p1 Ac) fun Ab=>obind (mk 32 (⟨(0:Int),(0:Int),(0:Int),(0:Int)⟩:Spot) ((Aa.length:Int))) fun Ad=>obind (d_impl_LoadsOf fu p1 Ab) fun Ae=>d_impl_SpotsOf_L4 fu Aa Ac Ab Ae fu Ad 0

def d_impl_Pallets_J1 (fu:Nat) (k3:Int → Int → Option (Int)) (Aa:Int) (Ab:Int):Option (Int) :=
  k3 Ab (w64 (Aa + 1))

def d_impl_Pallets_L1_B (fu:Nat)  (Ad:List Spot) (k3:Int → Int → Option (Int)) (Ab:Int) (Aa:Int):Option (Int) :=
  bif (decide (Aa < ((Ad.length:Int)))) then obind (ix Ad Aa) fun Ac=>obind (d_impl_in fu Ac.fPallet 0 999999) fun Ae=>bif Ae then d_impl_Pallets_J1 fu k3 Aa (if (w64 (Ac.fPallet + 1)) > Ab then w64 (Ac.fPallet + 1) else Ab) else d_impl_Pallets_J1 fu k3 Aa Ab else some (Ab)
def d_impl_Pallets_L1 (fu:Nat)  (Aa:List Spot):Nat → Int → Int → Option (Int)
  | 0=>fun _ _=>none
  | n + 1=>d_impl_Pallets_L1_B fu Aa (d_impl_Pallets_L1 fu Aa n)

def d_impl_Pallets (fu:Nat) (Aa:List Spot):Option (Int) :=
  d_impl_Pallets_L1 fu Aa fu 0 0

def d_impl_PlanOf_J1 (fu:Nat) (Ac:List Box → Int → Option (Plan × Bool)) (Ab:Int) (Aa:List Box):Option (Plan × Bool) :=
  Ac Aa (w64 (Ab + 1))

def d_impl_PlanOf_L1_B (fu:Nat) (Ai:List Spot → Int → Int → Option (Plan × Bool)) (Ad:Int) (Ag:Int) (Ae:(List Spot)) (Ah:Int) (Af:List Spot → Int → Option (Plan × Bool)) (Ac:List Spot) (Ab:Int):Option (Plan × Bool) :=
  bif (decide (Ab < ((Ae.length:Int)))) then obind (ix Ae Ab) fun Aa=>obind (apnd 32 Ac (([(⟨w64 (Aa.fPallet + Ad),Aa.fX,Aa.fY,Aa.fZ⟩:Spot)]:List Spot))) fun Aj=>Af Aj (w64 (Ab + 1)) else Ai Ac (w64 (Ad + Ah)) (w64 (Ag + 1))
def d_impl_PlanOf_L1 (fu:Nat) (Ae:List Spot → Int → Int → Option (Plan × Bool)) (Ab:Int) (Aa:Int) (Ad:(List Spot)) (Ac:Int):Nat → List Spot → Int → Option (Plan × Bool)
  | 0=>fun _ _=>none
  | n + 1=>d_impl_PlanOf_L1_B fu Ae Ab Aa Ad Ac (d_impl_PlanOf_L1 fu Ae Ab Aa Ad Ac n)

def d_impl_PlanOf_L2_B (fu:Nat) (Am:List Spot → Int → Int → Option (Plan × Bool)) (r1:Request) (Ag:(List Carton)) (Ai:List Spot) (Aj:Int) (Ad:Int) (Ae:List Box → Int → Option (Plan × Bool)) (Ab:List Box) (Aa:Int):Option (Plan × Bool) :=
  bif (decide (Aa < ((Ag.length:Int)))) then obind (ix Ag Aa) fun Ac=>bif (Ac.fGroup == Ad) then obind (d_impl_BoxOf fu r1 Ac) fun Ak=>obind (apnd 32 Ab (([Ak]:List Box))) fun Ah=>d_impl_PlanOf_J1 fu Ae Aa Ah else d_impl_PlanOf_J1 fu Ae Aa Ab else obind (d_impl_SpotsOf fu r1.fPallet Ab) fun Af=>obind (d_impl_Pallets fu Af) fun Al=>d_impl_PlanOf_L1 fu Am Aj Ad Af Al fu Ai 0
def d_impl_PlanOf_L2 (fu:Nat) (Ad:List Spot → Int → Int → Option (Plan × Bool)) (r1:Request) (Ae:(List Carton)) (Ab:List Spot) (Ac:Int) (Aa:Int):Nat → List Box → Int → Option (Plan × Bool)
  | 0=>fun _ _=>none
  | n + 1=>d_impl_PlanOf_L2_B fu Ad r1 Ae Ab Ac Aa (d_impl_PlanOf_L2 fu Ad r1 Ae Ab Ac Aa n)

def d_impl_PlanOf_L3_B (fu:Nat)  (r1:Request) (Ac:(List Carton)) (Ad:(List (List Int))) (Af:List Spot → Int → Int → Option (Plan × Bool)) (Ab:List Spot) (Ae:Int) (Aa:Int):Option (Plan × Bool) :=
  bif (decide (Aa < ((Ad.length:Int)))) then d_impl_PlanOf_L2 fu Af r1 Ac Ab Ae Aa fu (([]:List Box)) 0 else some ((⟨Ac,Ab⟩:Plan),true)
def d_impl_PlanOf_L3 (fu:Nat)  (r1:Request) (Ab:(List Carton)) (Aa:(List (List Int))):Nat → List Spot → Int → Int → Option (Plan × Bool)
  | 0=>fun _ _ _=>none
  | n + 1=>d_impl_PlanOf_L3_B fu r1 Ab Aa (d_impl_PlanOf_L3 fu r1 Ab Aa n)

def d_impl_PlanOf (fu:Nat) (r1:Request):Option (Plan × Bool) :=
  obind (d_impl_sound fu r1) fun Ac=>bif (!Ac) then some ((⟨[],[]⟩:Plan),false) else obind (d_impl_CartonsOf fu r1) fun Ab=>obind (d_impl_GroupsOf fu r1) fun Aa=>d_impl_PlanOf_L3 fu r1 Ab Aa fu (([]:List Spot)) 0 0

def d_impl_unitsRight_J1 (fu:Nat) (k3:Int → Option (Bool)) (Aa:Int)  : Option (Bool) :=
  k3 (w64 (Aa + 1))

def d_impl_unitsRight_L1_B (fu:Nat)  (Ab:List Int) (k3:Int → Option (Bool)) (Aa:Int):Option (Bool) :=
  bif (decide (Aa < ((Ab.length:Int)))) then obind (ix Ab Aa) fun Ac=>obind (d_impl_in fu Ac 0 999) fun Ad=>bif (!Ad) then some (false) else bif (decide (Aa > 0)) then obind (ix Ab (w64 (Aa - 1))) fun Ae=>bif (decide (Ae ≥ Ac)) then some (false) else d_impl_unitsRight_J1 fu k3 Aa else d_impl_unitsRight_J1 fu k3 Aa else some (decide (((Ab.length:Int)) ≤ 100))
def d_impl_unitsRight_L1 (fu:Nat)  (Aa:List Int):Nat → Int → Option (Bool)
  | 0=>fun _=>none
  | n + 1=>d_impl_unitsRight_L1_B fu Aa (d_impl_unitsRight_L1 fu Aa n)

def d_impl_unitsRight (fu:Nat) (Aa:List Int):Option (Bool) :=
  d_impl_unitsRight_L1 fu Aa fu 0

def d_impl_isPlace (fu:Nat) (n1:Int):Option (Bool) :=
  obind (d_impl_in fu n1 0 2000) fun x2=>some (x2)

def d_impl_PlanOk_J1 (fu:Nat) (k4:Int → Option (Bool)) (Aa:Int)  : Option (Bool) :=
  k4 (w64 (Aa + 1))

def d_impl_PlanOk_L1_B (fu:Nat)  (x1:Plan) (k4:Int → Option (Bool)) (Ab:Int):Option (Bool) :=
  bif (decide (Ab < ((x1.fCartons.length:Int)))) then obind (ix x1.fCartons Ab) fun Ac=>obind (ix x1.fSpots Ab) fun Aa=>obind (d_impl_in fu Ac.fType 0 999) fun Ag=>bif (!Ag) then some (false) else obind (d_impl_in fu Ac.fGroup 0 3) fun Ai=>bif (!Ai) then some (false) else obind (d_impl_unitsRight fu Ac.fUnits) fun Aj=>bif (!Aj) then some (false) else obind (d_impl_isPlace fu Aa.fPallet) fun Ae=>bif (!Ae) then some (false) else obind (d_impl_isPlace fu Aa.fX) fun Af=>bif (!Af) then some (false) else obind (d_impl_isPlace fu Aa.fY) fun Ah=>bif (!Ah) then some (false) else obind (d_impl_isPlace fu Aa.fZ) fun Ad=>bif (!Ad) then some (false) else d_impl_PlanOk_J1 fu k4 Ab else some (true)
def d_impl_PlanOk_L1 (fu:Nat)  (x1:Plan):Nat → Int → Option (Bool)
  | 0=>fun _=>none
  | n + 1=>d_impl_PlanOk_L1_B fu x1 (d_impl_PlanOk_L1 fu x1 n)

def d_impl_PlanOk_J2 (fu:Nat) (x1:Plan)  : Option (Bool) :=
  d_impl_PlanOk_L1 fu x1 fu 0

def d_impl_PlanOk (fu:Nat) (x1:Plan):Option (Bool) :=
  bif (((x1.fSpots.length:Int)) != ((x1.fCartons.length:Int))) then some (false) else bif (decide (((x1.fCartons.length:Int)) > 100)) then some (false) else d_impl_PlanOk_J2 fu x1

def d_impl_textLine_L1_B (fu:Nat)  (Ab:List Int) (k1:ByteArray → Int → Option (ByteArray × Bool)) (Ac:ByteArray) (Aa:Int):Option (ByteArray × Bool) :=
  bif (decide (Aa < ((Ab.length:Int)))) then obind (ix Ab Aa) fun Ad=>obind (d_impl_in fu Ad 0 999999) fun Ag=>bif (!Ag) then some ((⟨#[]⟩:ByteArray),false) else obind (d_impl_Digits fu Ad) fun Ah=>obind (scat ((⟨#[32]⟩:ByteArray)) Ah) fun Af=>obind (scat Ac Af) fun Ae=>k1 Ae (w64 (Aa + 1)) else obind (scat Ac ((⟨#[10]⟩:ByteArray))) fun Ai=>some (Ai,true)
def d_impl_textLine_L1 (fu:Nat)  (Aa:List Int):Nat → ByteArray → Int → Option (ByteArray × Bool)
  | 0=>fun _ _=>none
  | n + 1=>d_impl_textLine_L1_B fu Aa (d_impl_textLine_L1 fu Aa n)

def d_impl_textLine (fu:Nat) (Aa:ByteArray) (Ab:List Int):Option (ByteArray × Bool) :=
  d_impl_textLine_L1 fu Ab fu Aa 0

def d_impl_PlanText_L1_B (fu:Nat)  (x1:Plan) (k1:ByteArray → Int → Option (ByteArray)) (Ad:ByteArray) (Aa:Int):Option (ByteArray) :=
  bif (decide (Aa < ((x1.fCartons.length:Int)))) then obind (ix x1.fCartons Aa) fun Ac=>obind (ix x1.fSpots Aa) fun Ab=>obind (apnd 8 (([Ac.fType,Ac.fGroup,Ab.fPallet,Ab.fX,Ab.fY,Ab.fZ]:List Int)) Ac.fUnits) fun Ae=>obind (d_impl_textLine fu ((⟨#[99,97,114,116,111,110]⟩:ByteArray)) Ae) fun Af=>obind (scat Ad Af.1) fun Ag=>k1 Ag (w64 (Aa + 1)) else some (Ad)
def d_impl_PlanText_L1 (fu:Nat)  (x1:Plan):Nat → ByteArray → Int → Option (ByteArray)
  | 0=>fun _ _=>none
  | n + 1=>d_impl_PlanText_L1_B fu x1 (d_impl_PlanText_L1 fu x1 n)

def d_impl_PlanText (fu:Nat) (x1:Plan):Option (ByteArray) :=
  obind (d_impl_PlanOk fu x1) fun Aa=>bif (!Aa) then some ((⟨#[]⟩:ByteArray)) else d_impl_PlanText_L1 fu x1 fu ((⟨#[]⟩:ByteArray)) 0

def d_impl_Pack (fu:Nat) (Aa:ByteArray):Option (ByteArray × Int) :=
  obind (d_impl_ClassOf fu Aa) fun x2=>bif (x2 != 0) then some ((⟨#[]⟩:ByteArray),x2) else obind (d_impl_ReadOrder fu Aa) fun x7=>obind (d_impl_PlanOf fu x7.1) fun Ac=>obind (d_impl_PlanText fu Ac.1) fun Ab=>some (Ab,0)

end Go.Proofs.YthkaklkinepfkaaGreatDoor
