/- FnExactPackText: wha.. -/
import Derived.Test.YtpcmapfabndggabGreatDoorS13
import Derived.Test.YtpcmapfabndggabGreatDoorS15
import Derived.Test.YtpcmapfabndggabGreatDoorS22
set_option linter.unusedVariables false
namespace Go.Proofs.YtpcmapfabndggabGreatDoor
open Go
def Qhd (fu:Nat) (k3:List ByteArray→Int→Int→Option ((List ByteArray))) (Ac:Int) (Ab:List ByteArray) (Aa:Int):Option ((List ByteArray)) :=
  k3 Ab Aa (w64 (Ac+1))
def Qi6 (fu:Nat)  (Ab:ByteArray) (Af:Int) (k3:List ByteArray→Int→Int→Option ((List ByteArray))) (Ac:List ByteArray) (Ad:Int) (Aa:Int):Option ((List ByteArray)) :=
  bif (decide (Aa≤((Ab.size:Int)))) then bif (Aa==((Ab.size:Int))) then Qac (ssl Ab Ad Aa) λAg=>Qac (Qfh 16 Ac (([Ag]:List ByteArray))) λAe=>Qhd fu k3 Aa Ae (w64 (Aa+1)) else Qac (sx Ab Aa) λAj=>bif (Aj==Af) then Qac (ssl Ab Ad Aa) λAh=>Qac (Qfh 16 Ac (([Ah]:List ByteArray))) λAi=>Qhd fu k3 Aa Ai (w64 (Aa+1)) else Qhd fu k3 Aa Ac Ad else some (Ac)
def Qfo (fu:Nat)  (Aa:ByteArray) (Ab:Int):Nat→List ByteArray→Int→Int→Option ((List ByteArray))
  | 0=>λ_ _ _=>none
  | n+1=>Qi6 fu Aa Ab (Qfo fu Aa Ab n)
def Qp0 (fu:Nat) (Aa:ByteArray) (Ab:Int):Option ((List ByteArray)) :=
  Qfo fu Aa Ab fu (([]:List ByteArray)) 0 0
def Qlp (fu:Nat) (k3:Int→ByteArray→Option (ByteArray)) (Aa:Int) (Ae:ByteArray) (Ac:Int):Option (ByteArray) :=
  Qac (Jf1 (([(⟨w8 (w64 (48+Ac))⟩:U8)]:List U8))) λAb=>Qac (Qu4 Ab Ae) λAd=>k3 (w64 (Int.tdiv Aa 10)) Ad
def Qmi (fu:Nat)  (n1:Int) (k3:Int→ByteArray→Option (ByteArray)) (Aa:Int) (Ab:ByteArray):Option (ByteArray) :=
  bif (Aa != 0) then bif (decide ((Int.tmod Aa 10)<0)) then Qlp fu k3 Aa Ab (w64 (0 - (Int.tmod Aa 10))) else Qlp fu k3 Aa Ab (Int.tmod Aa 10) else bif (decide (n1<0)) then Qac (Qu4 (⟨#[45]⟩:ByteArray) Ab) λAc=>some (Ac) else some (Ab)
def Qfx (fu:Nat)  (n1:Int):Nat→Int→ByteArray→Option (ByteArray)
  | 0=>λ_ _=>none
  | n+1=>Qmi fu n1 (Qfx fu n1 n)
def Qkp (fu:Nat) (n1:Int):Option (ByteArray) :=
  bif (n1==0) then some (⟨#[48]⟩:ByteArray) else Qfx fu n1 fu n1 (⟨#[]⟩:ByteArray)
def Qpm (fu:Nat) (k8:Int→Int→Option (Int×Bool)) (Aa:Int) (Ab:Int):Option (Int×Bool) :=
  k8 Ab (w64 (Aa+1))
def Qpv (fu:Nat) (k8:Int→Int→Option (Int×Bool)) (Ab:ByteArray) (Ac:Int) (Aa:Int)  : Option (Int×Bool) :=
  Qac (sx Ab Aa) λAd=>Qpm fu k8 Aa (w64 ((w64 ((w64 (10*Ac))+(w64 Ad))) - 48))
def Qmf (fu:Nat)  (Aa:ByteArray) (k8:Int→Int→Option (Int×Bool)) (Ac:Int) (Ab:Int):Option (Int×Bool) :=
  bif (decide (Ab<((Aa.size:Int)))) then Qac (sx Aa Ab) λAe=>bif (decide (Ae<48)) then some (0,false) else Qac (sx Aa Ab) λAd=>bif (decide (Ad>57)) then some (0,false) else Qpv fu k8 Aa Ac Ab else Qac (Qkp fu Ac) λAf=>bif (!(Af.toList==Aa.toList)) then some (0,false) else some (Ac,true)
def Qer (fu:Nat)  (Aa:ByteArray):Nat→Int→Int→Option (Int×Bool)
  | 0=>λ_ _=>none
  | n+1=>Qmf fu Aa (Qer fu Aa n)
def Qpo (fu:Nat) (Aa:ByteArray)  : Option (Int×Bool) :=
  Qer fu Aa fu 0 0
def Qoh (fu:Nat) (Aa:ByteArray):Option (Int×Bool) :=
  bif (decide (((Aa.size:Int))<1)) then some (0,false) else bif (decide (((Aa.size:Int))>6)) then some (0,false) else Qpo fu Aa
def Qmg (fu:Nat)  (x4:(List ByteArray)) (k2:List Int→Int→Option ((List Int)×Bool)) (Ab:List Int) (Aa:Int):Option ((List Int)×Bool) :=
  bif (decide (Aa<(x4.length:Int))) then Qac (ix x4 Aa) λAd=>Qac (Qoh fu Ad) λAc=>bif (!Ac.2) then some (([]:List Int),false) else Qac (Qfh 8 Ab (([Ac.1]:List Int))) λAe=>k2 Ae (w64 (Aa+1)) else some (Ab,true)
def Qg0 (fu:Nat)  (x4:(List ByteArray)):Nat→List Int→Int→Option ((List Int)×Bool)
  | 0=>λ_ _=>none
  | n+1=>Qmg fu x4 (Qg0 fu x4 n)
def Qpx (fu:Nat) (x4:(List ByteArray))  : Option ((List Int)×Bool) :=
  Qg0 fu x4 fu (([]:List Int)) 1
def Qod (fu:Nat) (Ab:ByteArray) (Aa:ByteArray) (Ac:Int):Option ((List Int)×Bool) :=
  Qac (Qp0 fu Ab 32) λx4=>Qac (ix x4 0) λAd=>bif (!(Ad.toList==Aa.toList)) then some (([]:List Int),false) else bif ((x4.length:Int) != (w64 (Ac+1))) then some (([]:List Int),false) else Qpx fu x4
def Qbk (fu:Nat) (Ac:List ByteArray) (Ab:Int) (Af:ByteArray) (Ae:Int):Option ((List Int)×Bool) :=
  bif (decide (Ab≥(w64 ((Ac.length:Int) - 1)))) then some (([]:List Int),false) else Qac (ix Ac Ab) λAd=>Qac (Qod fu Ad Af Ae) λAa=>some (Aa.1,Aa.2)
def Qh0 (fu:Nat)  (x5:(List ByteArray)) (Aq:Int) (Av:Int) (Al:Int) (As:Int) (Aw:Int) (Am:Int) (Ar:List Pair) (Au:List Typ) (Ag:Int) (k5:List Item→Int→List Int→Bool→Option (Request×Int)) (Ac:List Item) (Ab:Int) (Aa:List Int) (Ah:Bool):Option (Request×Int) :=
  bif Ah then Qac (ix Aa 0) λAt=>Qac (ix Aa 1) λAp=>Qac (ix Aa 2) λAk=>Qac (ix Aa 3) λAo=>Qac (ix Aa 4) λAi=>Qac (ix Aa 5) λAe=>Qac (ix Aa 6) λAx=>Qac (Qfh 56 Ac (([(⟨At,Ap,Ak,Ao,Ai,Ae,Ax⟩:Item)]:List Item))) λAf=>Qac (Qbk fu x5 (w64 (Ab+1)) (⟨#[105,116,101,109]⟩:ByteArray) 7) λAd=>k5 Af (w64 (Ab+1)) Ad.1 Ad.2 else bif (decide (Ab<(w64 ((x5.length:Int) - 1)))) then some ((⟨0,(⟨0,0,0,0⟩:Pallet),0,[],[],0,[]⟩:Request),Ab) else Qac (ix x5 (w64 ((x5.length:Int) - 1))) λAj=>bif (!(Aj.toList==(⟨#[]⟩:ByteArray).toList)) then some ((⟨0,(⟨0,0,0,0⟩:Pallet),0,[],[],0,[]⟩:Request),Ab) else some ((⟨Aq,(⟨Av,Al,As,Aw⟩:Pallet),Am,Ar,Au,Ag,Ac⟩:Request),(-1))
def Qev (fu:Nat)  (x5:(List ByteArray)) (Ai:Int) (Af:Int) (Ab:Int) (Ad:Int) (Ah:Int) (Ag:Int) (Aa:List Pair) (Ae:List Typ) (Ac:Int):Nat→List Item→Int→List Int→Bool→Option (Request×Int)
  | 0=>λ_ _ _ _=>none
  | n+1=>Qh0 fu x5 Ai Af Ab Ad Ah Ag Aa Ae Ac (Qev fu x5 Ai Af Ab Ad Ah Ag Aa Ae Ac n)
def Qia (fu:Nat)  (x5:(List ByteArray)) (Aq:Int) (Av:Int) (Am:Int) (Au:Int) (Aw:Int) (Ap:Int) (As:List Pair) (k4:List Typ→Int→List Int→Bool→Option (Request×Int)) (Ae:List Typ) (Ab:Int) (Aa:List Int) (Aj:Bool):Option (Request×Int) :=
  bif Aj then Qac (ix Aa 0) λAo=>Qac (ix Aa 1) λAi=>Qac (ix Aa 2) λAk=>Qac (ix Aa 3) λAl=>Qac (ix Aa 4) λAt=>Qac (ix Aa 5) λAx=>Qac (ix Aa 6) λAg=>Qac (Qfh 56 Ae (([(⟨Ao,Ai,Ak,Al,At,Ax,Ag⟩:Typ)]:List Typ))) λAr=>Qac (Qbk fu x5 (w64 (Ab+1)) (⟨#[116,121,112,101]⟩:ByteArray) 7) λAc=>k4 Ar (w64 (Ab+1)) Ac.1 Ac.2 else Qac (Qbk fu x5 Ab (⟨#[109,97,115,116,101,114]⟩:ByteArray) 1) λAd=>bif (!Ad.2) then some ((⟨0,(⟨0,0,0,0⟩:Pallet),0,[],[],0,[]⟩:Request),Ab) else Qac (ix Ad.1 0) λAh=>Qac (Qbk fu x5 (w64 (Ab+1)) (⟨#[105,116,101,109]⟩:ByteArray) 7) λAf=>Qev fu x5 Aq Av Am Au Aw Ap As Ae Ah fu (([]:List Item)) (w64 (Ab+1)) Af.1 Af.2
def Qew (fu:Nat)  (x5:(List ByteArray)) (Ag:Int) (Ad:Int) (Ab:Int) (Ac:Int) (Af:Int) (Ae:Int) (Aa:List Pair):Nat→List Typ→Int→List Int→Bool→Option (Request×Int)
  | 0=>λ_ _ _ _=>none
  | n+1=>Qia fu x5 Ag Ad Ab Ac Af Ae Aa (Qew fu x5 Ag Ad Ab Ac Af Ae Aa n)
def Qnc (fu:Nat)  (x5:(List ByteArray)) (Ap:Int) (Aj:Int) (Af:Int) (Ah:Int) (Al:Int) (Ak:Int) (k3:List Pair→Int→List Int→Bool→Option (Request×Int)) (Ab:List Pair) (Aa:Int) (Ad:List Int) (Ao:Bool):Option (Request×Int) :=
  bif Ao then Qac (ix Ad 0) λAm=>Qac (ix Ad 1) λAi=>Qac (Qfh 16 Ab (([(⟨Am,Ai⟩:Pair)]:List Pair))) λAg=>Qac (Qbk fu x5 (w64 (Aa+1)) (⟨#[119,105,116,104]⟩:ByteArray) 2) λAc=>k3 Ag (w64 (Aa+1)) Ac.1 Ac.2 else Qac (Qbk fu x5 Aa (⟨#[116,121,112,101]⟩:ByteArray) 7) λAe=>Qew fu x5 Ap Aj Af Ah Al Ak Ab fu (([]:List Typ)) Aa Ae.1 Ae.2
def Qge (fu:Nat)  (x5:(List ByteArray)) (Af:Int) (Ac:Int) (Aa:Int) (Ab:Int) (Ae:Int) (Ad:Int):Nat→List Pair→Int→List Int→Bool→Option (Request×Int)
  | 0=>λ_ _ _ _=>none
  | n+1=>Qnc fu x5 Af Ac Aa Ab Ae Ad (Qge fu x5 Af Ac Aa Ab Ae Ad n)
def Qd2 (fu:Nat) (x5:(List ByteArray)) (Ai:Int):Option (Request×Int) :=
  Qac (Qbk fu x5 1 (⟨#[112,97,108,108,101,116]⟩:ByteArray) 4) λAa=>bif (!Aa.2) then some ((⟨0,(⟨0,0,0,0⟩:Pallet),0,[],[],0,[]⟩:Request),1) else Qac (ix Aa.1 0) λAf=>Qac (ix Aa.1 1) λAd=>Qac (ix Aa.1 2) λAe=>Qac (ix Aa.1 3) λAh=>Qac (Qbk fu x5 2 (⟨#[99,108,97,115,115,101,115]⟩:ByteArray) 1) λAc=>bif (!Ac.2) then some ((⟨0,(⟨0,0,0,0⟩:Pallet),0,[],[],0,[]⟩:Request),2) else Qac (ix Ac.1 0) λAg=>Qac (Qbk fu x5 3 (⟨#[119,105,116,104]⟩:ByteArray) 2) λAb=>Qge fu x5 Ai Af Ad Ae Ah Ag fu (([]:List Pair)) 3 Ab.1 Ab.2
def Qgi (fu:Nat) (x5:(List ByteArray))  : Option (Request×Int) :=
  Qac (ix x5 0) λAa=>bif (Aa.toList==(⟨#[119,97,121,32,110,101,120,116]⟩:ByteArray).toList) then Qd2 fu x5 1 else Qd2 fu x5 0
def Qhv (fu:Nat) (Ab:ByteArray):Option (Request×Int) :=
  Qac (Qp0 fu Ab 10) λx5=>bif (decide ((w64 ((x5.length:Int) - 1))>60)) then some ((⟨0,(⟨0,0,0,0⟩:Pallet),0,[],[],0,[]⟩:Request),60) else bif (decide ((w64 ((x5.length:Int) - 1))<1)) then some ((⟨0,(⟨0,0,0,0⟩:Pallet),0,[],[],0,[]⟩:Request),0) else Qac (ix x5 0) λAa=>bif (!(Aa.toList==(⟨#[119,97,121,32,102,105,114,115,116]⟩:ByteArray).toList)) then Qac (ix x5 0) λAc=>bif (!(Aa.toList==(⟨#[119,97,121,32,110,101,120,116]⟩:ByteArray).toList)) then some ((⟨0,(⟨0,0,0,0⟩:Pallet),0,[],[],0,[]⟩:Request),0) else Qgi fu x5 else Qgi fu x5
def Qat (fu:Nat) (x1:Int) (Aa:Int) (Ab:Int):Option (Bool) :=
  bif (decide (x1≥Aa)) then some (decide (x1≤Ab)) else some (false)
def Qee (fu:Nat) (x1:Int):Option (Bool) :=
  Qac (Qat fu x1 1 2000) λx2=>some (x2)
def Qgs (fu:Nat) (x1:Pallet):Option (Bool) :=
  Qac (Qee fu x1.fW) λx5=>bif x5 then Qac (Qee fu x1.fD) λAc=>bif Ac then Qac (Qee fu x1.fH) λAb=>bif Ab then Qac (Qat fu x1.fQ 1 100000) λAa=>some (Aa) else some (false) else some (false) else some (false)
def Qnm (fu:Nat) (x1:Int):Option (Bool) :=
  Qac (Qat fu x1 0 999) λx2=>some (x2)
def Qqi (fu:Nat) (x1:Typ):Option (Bool) :=
  Qac (Qnm fu x1.f4) λx5=>bif x5 then Qac (Qee fu x1.fW) λAa=>bif Aa then Qac (Qee fu x1.fH) λAd=>bif Ad then Qac (Qee fu x1.fD) λAf=>bif Af then Qac (Qat fu x1.fO 0 100000) λAe=>bif Ae then Qac (Qat fu x1.fQ 1 100000) λAb=>bif Ab then Qac (Qat fu x1.fL 0 100000) λAc=>some (Ac) else some (false) else some (false) else some (false) else some (false) else some (false) else some (false)
def Qqp (fu:Nat) (x1:Item):Option (Bool) :=
  Qac (Qnm fu x1.f4) λx5=>bif x5 then Qac (Qee fu x1.fW) λAa=>bif Aa then Qac (Qee fu x1.fH) λAd=>bif Ad then Qac (Qee fu x1.fD) λAf=>bif Af then Qac (Qat fu x1.fQ 1 100000) λAe=>bif Ae then Qac (Qat fu x1.fM 0 3) λAb=>bif Ab then Qac (Qat fu x1.fF 1 6) λAc=>some (Ac) else some (false) else some (false) else some (false) else some (false) else some (false) else some (false)
def Qmt (fu:Nat) (k4:Int→Option (Bool)) (Aa:Int)  : Option (Bool) :=
  k4 (w64 (Aa+1))
def Qiy (fu:Nat)  (r1:Request) (k7:Int→Int→Option (Bool)) (Ab:Int) (Aa:Int):Option (Bool) :=
  bif (decide (Aa<(r1.fV.length:Int))) then Qac (ix r1.fV Aa) λAc=>Qac (Qqp fu Ac) λAd=>bif (!Ad) then some (false) else Qac (ix r1.fV Aa) λAe=>k7 (w64 (Ab+Ac.fF)) (w64 (Aa+1)) else some (decide (Ab≤12))
def Qdt (fu:Nat)  (r1:Request):Nat→Int→Int→Option (Bool)
  | 0=>λ_ _=>none
  | n+1=>Qiy fu r1 (Qdt fu r1 n)
def Qio (fu:Nat)  (r1:Request) (k6:Int→Option (Bool)) (Aa:Int):Option (Bool) :=
  bif (decide (Aa<(r1.fG.length:Int))) then Qac (ix r1.fG Aa) λAb=>Qac (Qqi fu Ab) λAc=>bif (!Ac) then some (false) else k6 (w64 (Aa+1)) else Qdt fu r1 fu 0 0
def Qdx (fu:Nat)  (r1:Request):Nat→Int→Option (Bool)
  | 0=>λ_=>none
  | n+1=>Qio fu r1 (Qdx fu r1 n)
def Qir (fu:Nat)  (r1:Request) (k4:Int→Option (Bool)) (Aa:Int):Option (Bool) :=
  bif (decide (Aa<(r1.fR.length:Int))) then Qac (ix r1.fR Aa) λAb=>Qac (Qat fu Ab.fA 0 3) λAc=>bif (!Ac) then some (false) else Qac (ix r1.fR Aa) λAe=>Qac (Qat fu Ab.fB 0 3) λAd=>bif (!Ad) then some (false) else Qmt fu k4 Aa else Qdx fu r1 fu 0
def Qdr (fu:Nat)  (r1:Request):Nat→Int→Option (Bool)
  | 0=>λ_=>none
  | n+1=>Qir fu r1 (Qdr fu r1 n)
def Qmc (fu:Nat) (r1:Request)  : Option (Bool) :=
  Qdr fu r1 fu 0
def Qnj (fu:Nat) (r1:Request):Option (Bool) :=
  Qac (Qat fu r1.fe 0 1) λAa=>bif (!Aa) then some (false) else Qac (Qgs fu r1.fJ) λAb=>bif (!Ab) then some (false) else Qac (Qat fu r1.fU 1 4) λAe=>bif (!Ae) then some (false) else bif (decide ((r1.fR.length:Int)>16)) then some (false) else Qac (Qat fu (r1.fG.length:Int) 1 5) λAd=>bif (!Ad) then some (false) else Qac (Qnm fu r1.fT) λAc=>bif (!Ac) then some (false) else bif (decide ((r1.fV.length:Int)>8)) then some (false) else Qmc fu r1
def Qim (fu:Nat)  (r1:Request) (k1:Int→Option (Typ×Bool)) (Aa:Int):Option (Typ×Bool) :=
  bif (decide (Aa<(r1.fG.length:Int))) then Qac (ix r1.fG Aa) λAb=>bif (Ab.f4==r1.fT) then Qac (ix r1.fG Aa) λAc=>some (Ab,true) else k1 (w64 (Aa+1)) else some ((⟨0,0,0,0,0,0,0⟩:Typ),false)
def Qfq (fu:Nat)  (r1:Request):Nat→Int→Option (Typ×Bool)
  | 0=>λ_=>none
  | n+1=>Qim fu r1 (Qfq fu r1 n)
def Qgu (fu:Nat) (r1:Request):Option (Typ×Bool) :=
  Qfq fu r1 fu 0
def Qke (fu:Nat) (k3:Int→Option (Bool)) (r1:Request) (Ab:Int) (k4:Int→Option (Bool)) (Aa:Int):Option (Bool) :=
  bif (decide (Aa<Ab)) then Qac (ix r1.fG Ab) λAc=>Qac (ix r1.fG Aa) λAd=>bif (Ac.f4==Ad.f4) then some (false) else k4 (w64 (Aa+1)) else k3 (w64 (Ab+1))
def Qed (fu:Nat) (k3:Int→Option (Bool)) (r1:Request) (Aa:Int):Nat→Int→Option (Bool)
  | 0=>λ_=>none
  | n+1=>Qke fu k3 r1 Aa (Qed fu k3 r1 Aa n)
def Qkh (fu:Nat) (k7:Int→Option (Bool)) (r1:Request) (Aa:Int) (k8:Int→Option (Bool)) (Ab:Int):Option (Bool) :=
  bif (decide (Ab<Aa)) then Qac (ix r1.fV Aa) λAd=>Qac (ix r1.fV Ab) λAc=>bif (Ad.f4==Ac.f4) then some (false) else k8 (w64 (Ab+1)) else k7 (w64 (Aa+1))
def Qec (fu:Nat) (k7:Int→Option (Bool)) (r1:Request) (Aa:Int):Nat→Int→Option (Bool)
  | 0=>λ_=>none
  | n+1=>Qkh fu k7 r1 Aa (Qec fu k7 r1 Aa n)
def Qn9 (fu:Nat) (Aa:Int→Option (Bool)) (Ab:Int)  : Option (Bool) :=
  Aa (w64 (Ab+1))
def Qkm (fu:Nat)  (r1:Request) (Ac:Int→Option (Bool)) (Aa:Int):Option (Bool) :=
  bif (decide (Aa<(r1.fR.length:Int))) then Qac (ix r1.fR Aa) λAb=>bif (decide (Ab.fA≥r1.fU)) then some (false) else Qac (ix r1.fR Aa) λAe=>bif (decide (Ab.fB≥r1.fU)) then some (false) else Qn9 fu Ac Aa else Qac (Qgu fu r1) λAd=>some (Ad.2)
def Qdk (fu:Nat)  (r1:Request):Nat→Int→Option (Bool)
  | 0=>λ_=>none
  | n+1=>Qkm fu r1 (Qdk fu r1 n)
def Qk2 (fu:Nat)  (r1:Request) (k7:Int→Option (Bool)) (Aa:Int):Option (Bool) :=
  bif (decide (Aa<(r1.fV.length:Int))) then Qac (ix r1.fV Aa) λAb=>bif (decide (Ab.fM≥r1.fU)) then some (false) else Qec fu k7 r1 Aa fu 0 else Qdk fu r1 fu 0
def Qbn (fu:Nat)  (r1:Request):Nat→Int→Option (Bool)
  | 0=>λ_=>none
  | n+1=>Qk2 fu r1 (Qbn fu r1 n)
def Qkd (fu:Nat)  (r1:Request) (k3:Int→Option (Bool)) (Aa:Int):Option (Bool) :=
  bif (decide (Aa<(r1.fG.length:Int))) then Qed fu k3 r1 Aa fu 0 else Qbn fu r1 fu 0
def Qbu (fu:Nat)  (r1:Request):Nat→Int→Option (Bool)
  | 0=>λ_=>none
  | n+1=>Qkd fu r1 (Qbu fu r1 n)
def Qon (fu:Nat) (r1:Request):Option (Bool) :=
  Qbu fu r1 fu 0
def Qlg (fu:Nat) (k3:Int→Option (Bool)) (Aa:Int)  : Option (Bool) :=
  k3 (w64 (Aa+1))
def Qma (fu:Nat)  (Ab:List Pair) (a5:Int) (b6:Int) (k3:Int→Option (Bool)) (Aa:Int):Option (Bool) :=
  bif (decide (Aa<(Ab.length:Int))) then Qac (ix Ab Aa) λAc=>bif (Ac.fA==a5) then Qac (ix Ab Aa) λAd=>bif (Ac.fB==b6) then some (true) else Qlg fu k3 Aa else Qlg fu k3 Aa else some (false)
def Qfw (fu:Nat)  (Aa:List Pair) (a5:Int) (b6:Int):Nat→Int→Option (Bool)
  | 0=>λ_=>none
  | n+1=>Qma fu Aa a5 b6 (Qfw fu Aa a5 b6 n)
def Qfn (fu:Nat) (Aa:List Pair) (a5:Int) (b6:Int):Option (Bool) :=
  Qfw fu Aa a5 b6 fu 0
def Qi4 (fu:Nat) (Ab:Int→Option (Bool)) (Aa:Int)  : Option (Bool) :=
  Ab (w64 (Aa+1))
def Qk8 (fu:Nat) (k9:Int→Option (Bool)) (Ac:List Pair) (Ai:Int) (Ab:Int) (Ad:Int→Option (Bool)) (Aa:Int):Option (Bool) :=
  bif (decide (Aa<Ai)) then bif (Ab==Aa) then Qac (Qfn fu Ac Ab Ab) λAj=>bif (!Aj) then some (false) else Qac (Qfn fu Ac Ab Aa) λAf=>Qac (Qfn fu Ac Aa Ab) λAe=>bif (!(Af==Ae)) then some (false) else Qi4 fu Ad Aa else Qac (Qfn fu Ac Ab Aa) λAg=>Qac (Qfn fu Ac Aa Ab) λAh=>bif (!(Ag==Ah)) then some (false) else Qi4 fu Ad Aa else k9 (w64 (Ab+1))
def Qd6 (fu:Nat) (k9:Int→Option (Bool)) (Ab:List Pair) (Ac:Int) (Aa:Int):Nat→Int→Option (Bool)
  | 0=>λ_=>none
  | n+1=>Qk8 fu k9 Ab Ac Aa (Qd6 fu k9 Ab Ac Aa n)
def Qj5 (fu:Nat)  (Ac:List Pair) (Ab:Int) (k9:Int→Option (Bool)) (Aa:Int):Option (Bool) :=
  bif (decide (Aa<Ab)) then Qd6 fu k9 Ac Ab Aa fu 0 else some (true)
def Qdj (fu:Nat)  (Aa:List Pair) (Ab:Int):Nat→Int→Option (Bool)
  | 0=>λ_=>none
  | n+1=>Qj5 fu Aa Ab (Qdj fu Aa Ab n)
def Qox (fu:Nat) (Ab:List Pair) (Aa:Int):Option (Bool) :=
  Qac (Qat fu Aa 1 4) λx6=>bif (!x6) then some (false) else Qdj fu Ab Aa fu 0
def Qi1 (fu:Nat)  (n1:Int) (k1:List Int→Int→Option ((List Int))) (Ab:List Int) (Aa:Int):Option ((List Int)) :=
  bif (decide (Aa<n1)) then Qac (Qfh 8 Ab (([Aa]:List Int))) λAc=>k1 Ac (w64 (Aa+1)) else some (Ab)
def Qfj (fu:Nat)  (n1:Int):Nat→List Int→Int→Option ((List Int))
  | 0=>λ_ _=>none
  | n+1=>Qi1 fu n1 (Qfj fu n1 n)
def Qjc (fu:Nat) (n1:Int):Option ((List Int)) :=
  Qfj fu n1 fu (([]:List Int)) 0
def Qhc (fu:Nat) (k3:List Int→Int→Int→Option ((List Int))) (Ag:List Int) (Ai:Bool) (Ad:(List Int)) (Ae:(List Int)) (Ac:List Int) (Aa:Int) (Ab:Int)  : Option ((List Int)) :=
  bif (Ab==(Ae.length:Int)) then Qac (ix Ad Aa) λAo=>Qac (Qfh 8 Ac (([Ao]:List Int))) λAv=>k3 Av (w64 (Aa+1)) Ab else bif (Aa==(Ad.length:Int)) then Qac (ix Ae Ab) λAt=>Qac (Qfh 8 Ac (([At]:List Int))) λAl=>k3 Al Aa (w64 (Ab+1)) else Qac (ix Ae Ab) λAh=>Qac (ix Ag Ah) λAk=>Qac (ix Ad Aa) λAf=>Qac (ix Ag Af) λAj=>bif (decide (Ak<Aj)) then bif (!Ai) then Qac (ix Ae Ab) λBj=>Qac (Qfh 8 Ac (([Ah]:List Int))) λAp=>k3 Ap Aa (w64 (Ab+1)) else Qac (ix Ae Ab) λBh=>Qac (ix Ag Ah) λBk=>Qac (ix Ad Aa) λAx=>Qac (ix Ag Af) λBe=>bif (decide (Ak>Aj)) then bif Ai then Qac (ix Ae Ab) λAy=>Qac (Qfh 8 Ac (([Ah]:List Int))) λAs=>k3 As Aa (w64 (Ab+1)) else Qac (ix Ad Aa) λBa=>Qac (Qfh 8 Ac (([Af]:List Int))) λAq=>k3 Aq (w64 (Aa+1)) Ab else Qac (ix Ad Aa) λBb=>Qac (Qfh 8 Ac (([Af]:List Int))) λAr=>k3 Ar (w64 (Aa+1)) Ab else Qac (ix Ae Ab) λBl=>Qac (ix Ag Ah) λBc=>Qac (ix Ad Aa) λBg=>Qac (ix Ag Af) λBf=>bif (decide (Ak>Aj)) then bif Ai then Qac (ix Ae Ab) λBd=>Qac (Qfh 8 Ac (([Ah]:List Int))) λAm=>k3 Am Aa (w64 (Ab+1)) else Qac (ix Ad Aa) λBi=>Qac (Qfh 8 Ac (([Af]:List Int))) λAw=>k3 Aw (w64 (Aa+1)) Ab else Qac (ix Ad Aa) λAz=>Qac (Qfh 8 Ac (([Af]:List Int))) λAu=>k3 Au (w64 (Aa+1)) Ab
def Qkb (fu:Nat)  (Af:List Int) (Ag:Bool) (Ad:(List Int)) (Ac:(List Int)) (k3:List Int→Int→Int→Option ((List Int))) (Ab:List Int) (Aa:Int) (Ae:Int):Option ((List Int)) :=
  bif (decide (Aa<(Ad.length:Int))) then Qhc fu k3 Af Ag Ad Ac Ab Aa Ae else bif (decide (Ae<(Ac.length:Int))) then Qhc fu k3 Af Ag Ad Ac Ab Aa Ae else some (Ab)
def Qcq (fu:Nat)  (Aa:List Int) (Ac:Bool) (Ab:(List Int)) (Ad:(List Int)):Nat→List Int→Int→Int→Option ((List Int))
  | 0=>λ_ _ _=>none
  | n+1=>Qkb fu Aa Ac Ab Ad (Qcq fu Aa Ac Ab Ad n)
def Qq1 (fu:Nat) (self:List Int→List Int→Bool→Option ((List Int))) (Ab:List Int) (Aa:List Int) (Ac:Bool):Option ((List Int)) :=
  bif (decide ((Aa.length:Int)<2)) then Qac (Qfh 8 (([]:List Int)) Aa) λAg=>some (Ag) else Qac (sls Aa 0 (w64 (Int.tdiv (Aa.length:Int) 2))) λAd=>Qac (self Ab Ad Ac) λAh=>Qac (sls Aa (w64 (Int.tdiv (Aa.length:Int) 2)) (Aa.length:Int)) λAf=>Qac (self Ab Af Ac) λAe=>Qcq fu Ab Ac Ah Ae fu (([]:List Int)) 0 0
def Qhy (fu:Nat):Nat→List Int→List Int→Bool→Option ((List Int))
  | 0=>λ_ _ _=>none
  | n+1=>Qq1 fu (Qhy fu n)
def Qo0 (fu:Nat) (Aa:List Int) (Ac:List Int) (Ab:Bool):Option ((List Int)):=Qhy fu fu Aa Ac Ab
def Qn0 (fu:Nat) (Aa:List Int):Option ((List Int)) :=
  Qac (Qjc fu (Aa.length:Int)) λx5=>Qac (Qo0 fu Aa x5 false) λAb=>some (Ab)
def Qlw (fu:Nat) (Aa:Int) (h2:Int) (d3:Int):Option ((List Int)) :=
  Qac (Qn0 fu (([Aa,h2,d3]:List Int))) λx9=>Qac (ix x9 0) λAe=>Qac (ix (([Aa,h2,d3]:List Int)) Ae) λAf=>Qac (ix x9 1) λAc=>Qac (ix (([Aa,h2,d3]:List Int)) Ac) λAb=>Qac (ix x9 2) λAg=>Qac (ix (([Aa,h2,d3]:List Int)) Ag) λAd=>some (([Af,Ab,Ad]:List Int))
def Qqz (fu:Nat) (x1:Item) (t2:Typ):Option (Bool) :=
  Qac (Qlw fu x1.fW x1.fH x1.fD) λAa=>Qac (Qlw fu t2.fW t2.fH t2.fD) λAb=>Qac (ix Aa 0) λAg=>Qac (ix Ab 0) λAe=>bif (decide (Ag≤Ae)) then Qac (ix Aa 1) λAd=>Qac (ix Ab 1) λAh=>bif (decide (Ad≤Ah)) then Qac (ix Aa 2) λAc=>Qac (ix Ab 2) λAf=>bif (decide (Ac≤Af)) then some (decide (x1.fQ≤t2.fQ)) else some (false) else some (false) else some (false)
def Qqe (fu:Nat) (k4:Int→Option (Int)) (Aa:Int)  : Option (Int) :=
  k4 (w64 (Aa+1))
def Qn8 (fu:Nat)  (r1:Request) (k4:Int→Option (Int)) (Ab:Int):Option (Int) :=
  bif (decide (Ab<(r1.fG.length:Int))) then Qac (ix r1.fG Ab) λAa=>bif (decide (Aa.fW>r1.fJ.fW)) then some (6) else bif (decide (Aa.fD>r1.fJ.fD)) then some (6) else bif (decide (Aa.fH>r1.fJ.fH)) then some (6) else bif (decide ((w64 (Aa.fO+Aa.fQ))>r1.fJ.fQ)) then some (6) else Qqe fu k4 Ab else some (0)
def Qfk (fu:Nat)  (r1:Request):Nat→Int→Option (Int)
  | 0=>λ_=>none
  | n+1=>Qn8 fu r1 (Qfk fu r1 n)
def Qn5 (fu:Nat)  (r1:Request) (Ad:Typ×Bool) (k1:Int→Option (Int)) (Aa:Int):Option (Int) :=
  bif (decide (Aa<(r1.fV.length:Int))) then Qac (ix r1.fV Aa) λAb=>Qac (Qqz fu Ab Ad.1) λAc=>bif (!Ac) then some (5) else k1 (w64 (Aa+1)) else Qfk fu r1 fu 0
def Qgt (fu:Nat)  (r1:Request) (Aa:Typ×Bool):Nat→Int→Option (Int)
  | 0=>λ_=>none
  | n+1=>Qn5 fu r1 Aa (Qgt fu r1 Aa n)
def Qfd (fu:Nat) (r1:Request):Option (Int) :=
  Qac (Qnj fu r1) λAa=>bif (!Aa) then some (2) else Qac (Qon fu r1) λAc=>bif (!Ac) then some (3) else Qac (Qox fu r1.fR r1.fU) λAb=>bif (!Ab) then some (4) else Qac (Qgu fu r1) λAd=>Qgt fu r1 Ad fu 0
def Qo5 (fu:Nat) (Ab:ByteArray):Option (Int) :=
  Qac (Qhv fu Ab) λx2=>bif (decide (x2.2≥0)) then some (1) else Qac (Qfd fu x2.1) λAa=>some (Aa)
def Qje (fu:Nat) (Ab:List Int→Int→Option ((List Int))) (Ac:Int) (Aa:List Int):Option ((List Int)) :=
  Ab Aa (w64 (Ac+1))
def Qjo (fu:Nat) (Ab:Bool→Int→Option ((List Int))) (Aa:Int) (Ac:Bool):Option ((List Int)) :=
  Ab Ac (w64 (Aa+1))
def Qj1 (fu:Nat) (Af:List Int→Int→Option ((List Int))) (r1:Request) (Ac:List Int) (Ab:Int) (Ae:Bool→Int→Option ((List Int))) (Ad:Bool) (Aa:Int):Option ((List Int)) :=
  bif (decide (Aa<(r1.fV.length:Int))) then bif Ad then Qjo fu Ae Aa true else Qac (ix r1.fV Aa) λAg=>Qjo fu Ae Aa (Ag.fM==Ab) else bif Ad then Qac (Qfh 8 Ac (([Ab]:List Int))) λAh=>Qje fu Af Ab Ah else Qje fu Af Ab Ac
def Qd9 (fu:Nat) (Ab:List Int→Int→Option ((List Int))) (r1:Request) (Ac:List Int) (Aa:Int):Nat→Bool→Int→Option ((List Int))
  | 0=>λ_ _=>none
  | n+1=>Qj1 fu Ab r1 Ac Aa (Qd9 fu Ab r1 Ac Aa n)
def Qko (fu:Nat)  (r1:Request) (Ac:List Int→Int→Option ((List Int))) (Ab:List Int) (Aa:Int):Option ((List Int)) :=
  bif (decide (Aa<4)) then Qd9 fu Ac r1 Ab Aa fu false 0 else some (Ab)
def Qdh (fu:Nat)  (r1:Request):Nat→List Int→Int→Option ((List Int))
  | 0=>λ_ _=>none
  | n+1=>Qko fu r1 (Qdh fu r1 n)
def Qot (fu:Nat) (r1:Request):Option ((List Int)) :=
  Qac (Qfd fu r1) λAa=>bif (Aa != 0) then some (([]:List Int)) else Qdh fu r1 fu (([]:List Int)) 0
def Qno (fu:Nat)  (Ab:List Int) (x5:Int) (k1:Int→Option (Bool)) (Aa:Int):Option (Bool) :=
  bif (decide (Aa<(Ab.length:Int))) then Qac (ix Ab Aa) λAc=>bif (Ac==x5) then some (true) else k1 (w64 (Aa+1)) else some (false)
def Qhe (fu:Nat)  (Aa:List Int) (x5:Int):Nat→Int→Option (Bool)
  | 0=>λ_=>none
  | n+1=>Qno fu Aa x5 (Qhe fu Aa x5 n)
def Qpz (fu:Nat) (Aa:List Int) (x5:Int):Option (Bool) :=
  Qhe fu Aa x5 fu 0
def Qny (fu:Nat) (k3:Int→Option (Bool)) (Aa:Int)  : Option (Bool) :=
  k3 (w64 (Aa+1))
def Qj8 (fu:Nat)  (Ad:List Pair) (Ab:List Int) (Ac:Int) (k3:Int→Option (Bool)) (Aa:Int):Option (Bool) :=
  bif (decide (Aa<(Ab.length:Int))) then Qac (ix Ab Aa) λAe=>Qac (Qfn fu Ad Ae Ac) λAg=>bif (!Ag) then some (false) else Qac (ix Ab Aa) λAh=>Qac (Qfn fu Ad Ac Ae) λAf=>bif (!Af) then some (false) else Qny fu k3 Aa else some (true)
def Qe9 (fu:Nat)  (Aa:List Pair) (Ab:List Int) (Ac:Int):Nat→Int→Option (Bool)
  | 0=>λ_=>none
  | n+1=>Qj8 fu Aa Ab Ac (Qe9 fu Aa Ab Ac n)
def Qoq (fu:Nat) (Aa:List Pair) (Ab:List Int) (Ac:Int):Option (Bool) :=
  Qe9 fu Aa Ab Ac fu 0
def Qg3 (fu:Nat) (Ab:List (List Int)→Int→Option ((List (List Int)))) (Ac:Int) (Aa:List (List Int)):Option ((List (List Int))) :=
  Ab Aa (w64 (Ac+1))
def Qlh (fu:Nat) (Aa:Int→Int→Option ((List (List Int)))) (Ac:Int) (Ab:Int):Option ((List (List Int))) :=
  Aa Ab (w64 (Ac - 1))
def Qme (fu:Nat) (Af:List (List Int)→Int→Option ((List (List Int)))) (Al:List Pair) (Ab:List (List Int)) (Ac:Int) (Ae:Int→Int→Option ((List (List Int)))) (Aa:Int) (Ad:Int):Option ((List (List Int))) :=
  bif (decide (Ad≥0)) then Qac (ix Ab Ad) λAh=>Qac (Qoq fu Al Ah Ac) λAj=>bif Aj then Qlh fu Ae Ad Ad else Qlh fu Ae Ad Aa else bif (decide (Aa<0)) then Qac (Qfh 24 Ab [([Ac]:List Int)]) λAi=>Qg3 fu Af Ac Ai else Qac (ix Ab Aa) λAk=>Qac (Qfh 8 Ak (([Ac]:List Int))) λAg=>Qac (ix Ab Aa) λAm=>Qg3 fu Af Ac (Qhs Ab Aa Ag)
def Qes (fu:Nat) (Ac:List (List Int)→Int→Option ((List (List Int)))) (Aa:List Pair) (Ab:List (List Int)) (Ad:Int):Nat→Int→Int→Option ((List (List Int)))
  | 0=>λ_ _=>none
  | n+1=>Qme fu Ac Aa Ab Ad (Qes fu Ac Aa Ab Ad n)
def Ql9 (fu:Nat)  (Af:List Pair) (Ad:List Int) (Ac:List (List Int)→Int→Option ((List (List Int)))) (Aa:List (List Int)) (Ab:Int):Option ((List (List Int))) :=
  bif (decide (Ab<4)) then Qac (Qpz fu Ad Ab) λAe=>bif (!Ae) then Qg3 fu Ac Ab Aa else Qes fu Ac Af Aa Ab fu ((-1)) (w64 ((Aa.length:Int) - 1)) else some (Aa)
def Qd4 (fu:Nat)  (Aa:List Pair) (Ab:List Int):Nat→List (List Int)→Int→Option ((List (List Int)))
  | 0=>λ_ _=>none
  | n+1=>Ql9 fu Aa Ab (Qd4 fu Aa Ab n)
def Qqm (fu:Nat) (Aa:List Pair) (Ab:List Int):Option ((List (List Int))) :=
  Qd4 fu Aa Ab fu (([]:List (List Int))) 0
def Qhj (fu:Nat) (r1:Request):Option ((List (List Int))) :=
  Qac (Qot fu r1) λAb=>Qac (Qqm fu r1.fR Ab) λAa=>some (Aa)
def Qk7 (fu:Nat) (k3:List Int→Int→Option ((List Int))) (r1:Request) (Aa:Int) (k4:List Int→Int→Option ((List Int))) (Ab:List Int) (Ac:Int):Option ((List Int)) :=
  Qac (ix r1.fV Aa) λAe=>bif (decide (Ac<Ae.fF)) then Qac (Qfh 8 Ab (([Aa]:List Int))) λAd=>k4 Ad (w64 (Ac+1)) else k3 Ab (w64 (Aa+1))
def Qgn (fu:Nat) (k3:List Int→Int→Option ((List Int))) (r1:Request) (Aa:Int):Nat→List Int→Int→Option ((List Int))
  | 0=>λ_ _=>none
  | n+1=>Qk7 fu k3 r1 Aa (Qgn fu k3 r1 Aa n)
def Qjy (fu:Nat)  (r1:Request) (k3:List Int→Int→Option ((List Int))) (Ab:List Int) (Aa:Int):Option ((List Int)) :=
  bif (decide (Aa<(r1.fV.length:Int))) then Qgn fu k3 r1 Aa fu Ab 0 else some (Ab)
def Qd8 (fu:Nat)  (r1:Request):Nat→List Int→Int→Option ((List Int))
  | 0=>λ_ _=>none
  | n+1=>Qjy fu r1 (Qd8 fu r1 n)
def Qc4 (fu:Nat) (r1:Request):Option ((List Int)) :=
  Qd8 fu r1 fu (([]:List Int)) 0
def Qi9 (fu:Nat) (k3:List Int→Int→Option ((List Int))) (Aa:Int) (Ab:List Int):Option ((List Int)) :=
  k3 Ab (w64 (Aa+1))
def Qki (fu:Nat)  (r1:Request) (Aj:Int) (Af:(List (List Int))) (Ac:(List Int)) (k3:List Int→Int→Option ((List Int))) (Ab:List Int) (Aa:Int):Option ((List Int)) :=
  bif (decide (Aa<(Ac.length:Int))) then Qac (ix Af Aj) λAg=>Qac (ix Ac Aa) λAd=>Qac (ix r1.fV Ad) λAi=>Qac (Qpz fu Ag Ai.fM) λAh=>bif Ah then Qac (Qfh 8 Ab (([Aa]:List Int))) λAe=>Qi9 fu k3 Aa Ae else Qi9 fu k3 Aa Ab else some (Ab)
def Qfe (fu:Nat)  (r1:Request) (Ab:Int) (Ac:(List (List Int))) (Aa:(List Int)):Nat→List Int→Int→Option ((List Int))
  | 0=>λ_ _=>none
  | n+1=>Qki fu r1 Ab Ac Aa (Qfe fu r1 Ab Ac Aa n)
def Qpb (fu:Nat) (r1:Request) (Aa:Int):Option ((List Int)) :=
  Qac (Qhj fu r1) λAb=>Qac (Qat fu Aa 0 (w64 ((Ab.length:Int) - 1))) λAd=>bif (!Ad) then some (([]:List Int)) else Qac (Qc4 fu r1) λAc=>Qfe fu r1 Aa Ab Ac fu (([]:List Int)) 0
def Qi3 (fu:Nat) (k3:List Int→Int→Option ((List Int))) (Ab:Int) (Aa:List Int):Option ((List Int)) :=
  k3 Aa (w64 (Ab+1))
def Qk0 (fu:Nat)  (Ag:List Int) (Ac:List Int) (k3:List Int→Int→Option ((List Int))) (Ab:List Int) (Aa:Int):Option ((List Int)) :=
  bif (decide (Aa<(Ac.length:Int))) then Qac (ix Ac Aa) λAd=>Qac (Qat fu Ad 0 (w64 ((Ag.length:Int) - 1))) λAf=>bif Af then Qac (ix Ac Aa) λAh=>Qac (Qfh 8 Ab (([Ad]:List Int))) λAe=>Qi3 fu k3 Aa Ae else Qi3 fu k3 Aa Ab else some (Ab)
def Qe2 (fu:Nat)  (Ab:List Int) (Aa:List Int):Nat→List Int→Int→Option ((List Int))
  | 0=>λ_ _=>none
  | n+1=>Qk0 fu Ab Aa (Qe2 fu Ab Aa n)
def Ql2 (fu:Nat) (Ab:List Int) (Aa:List Int):Option ((List Int)) :=
  Qe2 fu Ab Aa fu (([]:List Int)) 0
def Qk4 (fu:Nat) (r1:Request) (Aa:List Int) (u9:Int):Option (Item×Bool) :=
  Qac (Qat fu u9 0 (w64 ((Aa.length:Int) - 1))) λAc=>bif (!Ac) then some ((⟨0,0,0,0,0,0,0⟩:Item),false) else Qac (ix Aa u9) λAd=>Qac (ix r1.fV Ad) λAb=>some (Ab,true)
def Qpe (fu:Nat) (Aa:Int) (h2:Int) (d3:Int)  : Option (Int) :=
  some (w64 ((w64 (Aa*h2))*d3))
def Qkg (fu:Nat) (Aa:Int) (h2:Int) (d3:Int):Option (Int) :=
  Qac (Qat fu Aa 0 2000) λAb=>bif (!Ab) then some (0) else Qac (Qat fu h2 0 2000) λAc=>bif (!Ac) then some (0) else Qac (Qat fu d3 0 2000) λAd=>bif (!Ad) then some (0) else Qpe fu Aa h2 d3
def Qra (fu:Nat) (k7:L7→Int→Option (L7)) (Aa:Int) (Ab:L7):Option (L7) :=
  k7 Ab (w64 (Aa+1))
def Qq9 (fu:Nat) (k7:L7→Int→Option (L7)) (Ab:L7) (Ac:Int) (Aa:Item):Option (L7) :=
  Qac (Qkg fu Aa.fW Aa.fH Aa.fD) λAd=>Qra fu k7 Ac (⟨w64 (Ab.fvol+Ad),w64 (Ab.fgram+Aa.fQ)⟩:L7)
def Qpt (fu:Nat)  (r1:Request) (Af:List Int) (Ac:List Int) (k7:L7→Int→Option (L7)) (Ab:L7) (Aa:Int):Option (L7) :=
  bif (decide (Aa<(Ac.length:Int))) then Qac (ix Ac Aa) λAd=>Qac (Qk4 fu r1 Af Ad) λAe=>Qq9 fu k7 Ab Aa Ae.1 else some (Ab)
def Qgr (fu:Nat)  (r1:Request) (Ab:List Int) (Aa:List Int):Nat→L7→Int→Option (L7)
  | 0=>λ_ _=>none
  | n+1=>Qpt fu r1 Ab Aa (Qgr fu r1 Ab Aa n)
def Qpy (fu:Nat) (r1:Request) (Ab:List Int) (Aa:List Int):Option (L7) :=
  Qgr fu r1 Ab Aa fu (⟨0,0⟩:L7) 0
def Qpi (fu:Nat) (m9:Typ) (Aa:L7):Option (Bool) :=
  Qac (Qkg fu m9.fW m9.fH m9.fD) λAb=>bif (decide (Aa.fvol≤Ab)) then some (decide (Aa.fgram≤m9.fQ)) else some (false)
def Qn4 (fu:Nat) (r1:Request) (Af:List Int) (m9:Typ) (Aa:List Int) (Ae:Int):Option (Bool) :=
  Qac (Qfh 8 (([]:List Int)) Aa) λAd=>Qac (Qfh 8 Ad (([Ae]:List Int))) λAb=>Qac (Qpy fu r1 Af Ab) λAc=>Qpi fu m9 Ac
def Qhz (fu:Nat) (k3:List (List Int)→Int→Option ((List (List Int)))) (Aa:Int) (Ab:List (List Int)):Option ((List (List Int))) :=
  k3 Ab (w64 (Aa+1))
def Qmn (fu:Nat)  (r1:Request) (Ac:List Int) (Af:Typ×Bool) (Ah:(List Int)) (k3:List (List Int)→Int→Option ((List (List Int)))) (Aa:List (List Int)) (Ab:Int):Option ((List (List Int))) :=
  bif (decide (Ab<(Ac.length:Int))) then bif (decide ((Aa.length:Int)>0)) then Qac (ix Aa (w64 ((Aa.length:Int) - 1))) λAe=>Qac (ix Ac Ab) λAd=>Qac (Qn4 fu r1 Ah Af.1 Ae Ad) λAj=>bif Aj then Qac (ix Aa (w64 ((Aa.length:Int) - 1))) λAm=>Qac (ix Ac Ab) λAq=>Qac (Qfh 8 Ae (([Ad]:List Int))) λAl=>Qac (ix Aa (w64 ((Aa.length:Int) - 1))) λAp=>Qhz fu k3 Ab (Qhs Aa (w64 ((Aa.length:Int) - 1)) Al) else Qac (ix Ac Ab) λAo=>Qac (Qfh 24 Aa [([Ad]:List Int)]) λAg=>Qhz fu k3 Ab Ag else Qac (ix Ac Ab) λAi=>Qac (Qfh 24 Aa [([Ai]:List Int)]) λAk=>Qhz fu k3 Ab Ak else some (Aa)
def Qfz (fu:Nat)  (r1:Request) (Aa:List Int) (Ab:Typ×Bool) (Ac:(List Int)):Nat→List (List Int)→Int→Option ((List (List Int)))
  | 0=>λ_ _=>none
  | n+1=>Qmn fu r1 Aa Ab Ac (Qfz fu r1 Aa Ab Ac n)
def Qrv (fu:Nat) (r1:Request) (Aa:List Int):Option ((List (List Int))) :=
  Qac (Qgu fu r1) λAb=>Qac (Qc4 fu r1) λAc=>Qfz fu r1 Aa Ab Ac fu (([]:List (List Int))) 0
def Qo6 (fu:Nat) (r1:Request) (Ad:List Int):Option ((List (List Int))) :=
  Qac (Qfd fu r1) λAe=>bif (Ae != 0) then some (([]:List (List Int))) else Qac (Qc4 fu r1) λAc=>Qac (Ql2 fu Ac Ad) λAb=>Qac (Qrv fu r1 Ab) λAa=>some (Aa)
def Qgw (fu:Nat) (Aa:List Int):Option ((List Int)) :=
  Qac (Qjc fu (Aa.length:Int)) λx5=>Qac (Qo0 fu Aa x5 true) λAb=>some (Ab)
def Qja (fu:Nat) (Ab:List (List Int)→Int→Option ((List (List Int)))) (Aa:Int) (Ac:List (List Int)):Option ((List (List Int))) :=
  Ab Ac (w64 (Aa+1))
def Qjd (fu:Nat) (Ac:Int→Int→Option ((List (List Int)))) (Aa:Int) (Ab:Int):Option ((List (List Int))) :=
  Ac Ab (w64 (Aa - 1))
def Qj9 (fu:Nat) (Af:List (List Int)→Int→Option ((List (List Int)))) (r1:Request) (Ao:Typ×Bool) (Ai:(List Int)) (Ab:List (List Int)) (Ag:Int) (Ad:Int) (Ae:Int→Int→Option ((List (List Int)))) (Ac:Int) (Aa:Int):Option ((List (List Int))) :=
  bif (decide (Aa≥0)) then Qac (ix Ab Aa) λAk=>Qac (Qn4 fu r1 Ai Ao.1 Ak Ad) λAm=>bif Am then Qjd fu Ae Aa Aa else Qjd fu Ae Aa Ac else bif (decide (Ac<0)) then Qac (Qfh 24 Ab [([Ad]:List Int)]) λAj=>Qja fu Af Ag Aj else Qac (ix Ab Ac) λAh=>Qac (Qfh 8 Ah (([Ad]:List Int))) λAl=>Qac (ix Ab Ac) λAp=>Qja fu Af Ag (Qhs Ab Ac Al)
def Qe4 (fu:Nat) (Aa:List (List Int)→Int→Option ((List (List Int)))) (r1:Request) (Af:Typ×Bool) (Ac:(List Int)) (Ae:List (List Int)) (Ad:Int) (Ab:Int):Nat→Int→Int→Option ((List (List Int)))
  | 0=>λ_ _=>none
  | n+1=>Qj9 fu Aa r1 Af Ac Ae Ad Ab (Qe4 fu Aa r1 Af Ac Ae Ad Ab n)
def Qkc (fu:Nat)  (r1:Request) (Ah:List Int) (Ai:Typ×Bool) (Af:(List Int)) (Ac:(List Int)) (Ad:List (List Int)→Int→Option ((List (List Int)))) (Ab:List (List Int)) (Aa:Int):Option ((List (List Int))) :=
  bif (decide (Aa<(Ac.length:Int))) then Qac (ix Ac Aa) λAg=>Qac (ix Ah Ag) λAe=>Qe4 fu Ad r1 Ai Af Ab Aa Ae fu ((-1)) (w64 ((Ab.length:Int) - 1)) else some (Ab)
def Qcp (fu:Nat)  (r1:Request) (Aa:List Int) (Ab:Typ×Bool) (Ad:(List Int)) (Ac:(List Int)):Nat→List (List Int)→Int→Option ((List (List Int)))
  | 0=>λ_ _=>none
  | n+1=>Qkc fu r1 Aa Ab Ad Ac (Qcp fu r1 Aa Ab Ad Ac n)
def Qj6 (fu:Nat)  (r1:Request) (Ab:List Int) (Ah:Typ×Bool) (Ac:(List Int)) (k1:List Int→Int→Option ((List (List Int)))) (Ad:List Int) (Aa:Int):Option ((List (List Int))) :=
  bif (decide (Aa<(Ab.length:Int))) then Qac (sls Ab Aa (w64 (Aa+1))) λAf=>Qac (Qpy fu r1 Ac Af) λAe=>Qac (Qfh 8 Ad (([Ae.fvol]:List Int))) λAi=>k1 Ai (w64 (Aa+1)) else Qac (Qgw fu Ad) λAg=>Qcp fu r1 Ab Ah Ac Ag fu (([]:List (List Int))) 0
def Qgh (fu:Nat)  (r1:Request) (Aa:List Int) (Ab:Typ×Bool) (Ac:(List Int)):Nat→List Int→Int→Option ((List (List Int)))
  | 0=>λ_ _=>none
  | n+1=>Qj6 fu r1 Aa Ab Ac (Qgh fu r1 Aa Ab Ac n)
def Qq8 (fu:Nat) (r1:Request) (Aa:List Int):Option ((List (List Int))) :=
  Qac (Qgu fu r1) λAb=>Qac (Qc4 fu r1) λAc=>Qgh fu r1 Aa Ab Ac fu (([]:List Int)) 0
def Qm8 (fu:Nat) (r1:Request) (Ad:List Int):Option ((List (List Int))) :=
  Qac (Qfd fu r1) λAe=>bif (Ae != 0) then some (([]:List (List Int))) else Qac (Qc4 fu r1) λAc=>Qac (Ql2 fu Ac Ad) λAb=>Qac (Qq8 fu r1 Ab) λAa=>some (Aa)
def Qo9 (fu:Nat) (r1:Request) (Aa:List Int):Option ((List (List Int))) :=
  bif (r1.fe==1) then Qac (Qo6 fu r1 Aa) λAb=>some (Ab) else Qac (Qm8 fu r1 Aa) λAc=>some (Ac)
def Qqc (fu:Nat) (r1:Request) (Ac:List Int) (t9:Typ) (Ab:(List Int))  : Option (Bool) :=
  Qac (Qpy fu r1 Ab Ac) λAa=>Qac (Qkg fu t9.fW t9.fH t9.fD) λAd=>bif (decide (Aa.fvol≤Ad)) then some (decide (Aa.fgram≤t9.fQ)) else some (false)
def Qqf (fu:Nat) (Aa:Int→Option (Bool)) (Ab:Int)  : Option (Bool) :=
  Aa (w64 (Ab+1))
def Qqv (fu:Nat) (Ae:Int→Option (Bool)) (t9:Typ) (Aa:Int) (Ac:Item) (Ab:Bool):Option (Bool) :=
  bif (!Ab) then some (false) else Qac (Qqz fu Ac t9) λAd=>bif (!Ad) then some (false) else Qqf fu Ae Aa
def Qnz (fu:Nat)  (r1:Request) (Ab:List Int) (t9:Typ) (Ac:(List Int)) (Af:Int→Option (Bool)) (Aa:Int):Option (Bool) :=
  bif (decide (Aa<(Ab.length:Int))) then Qac (ix Ab Aa) λAe=>Qac (Qk4 fu r1 Ac Ae) λAd=>Qqv fu Af t9 Aa Ad.1 Ad.2 else Qqc fu r1 Ab t9 Ac
def Qfs (fu:Nat)  (r1:Request) (Aa:List Int) (t9:Typ) (Ab:(List Int)):Nat→Int→Option (Bool)
  | 0=>λ_=>none
  | n+1=>Qnz fu r1 Aa t9 Ab (Qfs fu r1 Aa t9 Ab n)
def Qrl (fu:Nat) (r1:Request) (Ab:List Int) (t9:Typ):Option (Bool) :=
  Qac (Qfd fu r1) λAa=>bif (Aa != 0) then some (false) else Qac (Qc4 fu r1) λAc=>Qfs fu r1 Ab t9 Ac fu 0
def Qdw (fu:Nat) (k3:Typ→Bool→Int→Option (Typ×Bool)) (Ab:Int) (Ac:Typ) (Aa:Bool):Option (Typ×Bool) :=
  k3 Ac Aa (w64 (Ab+1))
def Qis (fu:Nat)  (r1:Request) (Af:List Int) (k3:Typ→Bool→Int→Option (Typ×Bool)) (Ab:Typ) (Ad:Bool) (Aa:Int):Option (Typ×Bool) :=
  bif (decide (Aa<(r1.fG.length:Int))) then Qac (ix r1.fG Aa) λAc=>Qac (Qrl fu r1 Af Ac) λAe=>bif (!Ae) then Qdw fu k3 Aa Ab Ad else bif (!Ad) then Qdw fu k3 Aa Ac true else bif (decide (Ac.fL<Ab.fL)) then Qdw fu k3 Aa Ac true else bif (Ac.fL==Ab.fL) then bif (decide (Ac.f4<Ab.f4)) then Qdw fu k3 Aa Ac true else Qdw fu k3 Aa Ab Ad else Qdw fu k3 Aa Ab Ad else some (Ab,Ad)
def Qei (fu:Nat)  (r1:Request) (Aa:List Int):Nat→Typ→Bool→Int→Option (Typ×Bool)
  | 0=>λ_ _ _=>none
  | n+1=>Qis fu r1 Aa (Qei fu r1 Aa n)
def Qm5 (fu:Nat) (r1:Request) (Aa:List Int):Option (Typ×Bool) :=
  Qei fu r1 Aa fu (⟨0,0,0,0,0,0,0⟩:Typ) false 0
def Qky (fu:Nat) (Aa:List Carton→Int→Option ((List Carton))) (Ac:Int) (Ab:List Carton):Option ((List Carton)) :=
  Aa Ab (w64 (Ac+1))
def Qhm (fu:Nat) (Ab:List Carton→Int→Option ((List Carton))) (Aa:Int) (Ac:List Carton):Option ((List Carton)) :=
  Ab Ac (w64 (Aa+1))
def Qic (fu:Nat) (Af:List Carton→Int→Option ((List Carton))) (Ak:Int) (Al:(List (List Int))) (Ap:List Carton) (Ad:Int) (Ag:Typ) (Ab:(List Int)) (Ah:List Int→Int→Option ((List Carton))) (Ac:List Int) (Aa:Int):Option ((List Carton)) :=
  bif (decide (Aa<(Ab.length:Int))) then Qac (ix Al Ad) λAi=>Qac (ix Ab Aa) λAm=>Qac (ix Ai Am) λAo=>Qac (Qfh 8 Ac (([Ao]:List Int))) λAe=>Ah Ae (w64 (Aa+1)) else Qac (Qfh 40 Ap [(⟨Ag.f4,Ak,Ac⟩:Carton)]) λAj=>Qhm fu Af Ad Aj
def Qex (fu:Nat) (Aa:List Carton→Int→Option ((List Carton))) (Ad:Int) (Af:(List (List Int))) (Ag:List Carton) (Ae:Int) (Ac:Typ) (Ab:(List Int)):Nat→List Int→Int→Option ((List Carton))
  | 0=>λ_ _=>none
  | n+1=>Qic fu Aa Ad Af Ag Ae Ac Ab (Qex fu Aa Ad Af Ag Ae Ac Ab n)
def Qkx (fu:Nat) (Ac:List Carton→Int→Option ((List Carton))) (Af:Int) (Ab:(List (List Int))) (Ah:List Carton) (Aa:Int) (Ae:Typ):Option ((List Carton)) :=
  Qac (ix Ab Aa) λAg=>Qac (Qn0 fu Ag) λAd=>Qex fu Ac Af Ab Ah Aa Ae Ad fu (([]:List Int)) 0
def Qh6 (fu:Nat) (Ag:List Carton→Int→Option ((List Carton))) (r1:Request) (Ac:Int) (Ab:(List (List Int))) (Af:List Carton→Int→Option ((List Carton))) (Ad:List Carton) (Aa:Int):Option ((List Carton)) :=
  bif (decide (Aa<(Ab.length:Int))) then Qac (ix Ab Aa) λAh=>Qac (Qm5 fu r1 Ah) λAe=>Qkx fu Af Ac Ab Ad Aa Ae.1 else Qky fu Ag Ac Ad
def Qb7 (fu:Nat) (Aa:List Carton→Int→Option ((List Carton))) (r1:Request) (Ac:Int) (Ab:(List (List Int))):Nat→List Carton→Int→Option ((List Carton))
  | 0=>λ_ _=>none
  | n+1=>Qh6 fu Aa r1 Ac Ab (Qb7 fu Aa r1 Ac Ab n)
def Qh4 (fu:Nat)  (r1:Request) (Ac:(List (List Int))) (Af:List Carton→Int→Option ((List Carton))) (Ab:List Carton) (Aa:Int):Option ((List Carton)) :=
  bif (decide (Aa<(Ac.length:Int))) then Qac (Qpb fu r1 Aa) λAd=>Qac (Qo9 fu r1 Ad) λAe=>Qb7 fu Af r1 Aa Ae fu Ab 0 else some (Ab)
def Qbf (fu:Nat)  (r1:Request) (Aa:(List (List Int))):Nat→List Carton→Int→Option ((List Carton))
  | 0=>λ_ _=>none
  | n+1=>Qh4 fu r1 Aa (Qbf fu r1 Aa n)
def Qlj (fu:Nat) (r1:Request):Option ((List Carton)) :=
  Qac (Qhj fu r1) λAa=>Qbf fu r1 Aa fu (([]:List Carton)) 0
def Qiz (fu:Nat)  (r1:Request) (Ac:Int) (k1:Int→Option (Typ×Bool)) (Aa:Int):Option (Typ×Bool) :=
  bif (decide (Aa<(r1.fG.length:Int))) then Qac (ix r1.fG Aa) λAb=>bif (Ab.f4==Ac) then Qac (ix r1.fG Aa) λAd=>some (Ab,true) else k1 (w64 (Aa+1)) else some ((⟨0,0,0,0,0,0,0⟩:Typ),false)
def Qfm (fu:Nat)  (r1:Request) (Aa:Int):Nat→Int→Option (Typ×Bool)
  | 0=>λ_=>none
  | n+1=>Qiz fu r1 Aa (Qfm fu r1 Aa n)
def Qjj (fu:Nat) (r1:Request) (Aa:Int):Option (Typ×Bool) :=
  Qfm fu r1 Aa fu 0
def Qrf (fu:Nat) (r1:Request):Option ((List Int)) :=
  Qac (Qfd fu r1) λAa=>bif (Aa != 0) then some (([]:List Int)) else Qac (Qc4 fu r1) λAb=>some (Ab)
def Qpl (fu:Nat) (k7:Int→Int→Option (Int)) (Aa:Int) (Ab:Int):Option (Int) :=
  k7 Ab (w64 (Aa+1))
def Qpp (fu:Nat) (k7:Int→Int→Option (Int)) (Ac:Int) (Aa:Int) (Ab:Item):Option (Int) :=
  Qpl fu k7 Aa (w64 (Ac+Ab.fQ))
def Qmh (fu:Nat)  (r1:Request) (Ac:List Int) (Ad:(List Int)) (k7:Int→Int→Option (Int)) (Ab:Int) (Aa:Int):Option (Int) :=
  bif (decide (Aa<(Ac.length:Int))) then Qac (ix Ac Aa) λAe=>Qac (Qk4 fu r1 Ad Ae) λAf=>Qpp fu k7 Ab Aa Af.1 else some (Ab)
def Qet (fu:Nat)  (r1:Request) (Aa:List Int) (Ab:(List Int)):Nat→Int→Int→Option (Int)
  | 0=>λ_ _=>none
  | n+1=>Qmh fu r1 Aa Ab (Qet fu r1 Aa Ab n)
def Qqj (fu:Nat) (r1:Request) (Aa:List Int):Option (Int) :=
  Qac (Qrf fu r1) λAb=>Qet fu r1 Aa Ab fu 0 0
def Qqt (fu:Nat) (r1:Request) (x5:Carton) (Ab:Typ×Bool)  : Option (Int) :=
  Qac (Qqj fu r1 x5.f8) λAa=>some (w64 (Ab.1.fO+Aa))
def Qri (fu:Nat) (r1:Request) (x5:Carton):Option (Int) :=
  Qac (Qjj fu r1 x5.fc) λAa=>Qac (Qfd fu r1) λAb=>bif (Ab != 0) then some (0) else bif (!Aa.2) then some (0) else Qqt fu r1 x5 Aa
def Qqn (fu:Nat) (r1:Request) (x5:Carton) (Aa:Typ×Bool)  : Option (Box) :=
  Qac (Qri fu r1 x5) λAb=>some (⟨Aa.1.fW,Aa.1.fD,Aa.1.fH,Ab⟩:Box)
def Qrg (fu:Nat) (r1:Request) (x5:Carton):Option (Box) :=
  Qac (Qjj fu r1 x5.fc) λAa=>Qac (Qfd fu r1) λAb=>bif (Ab != 0) then some (⟨0,0,0,0⟩:Box) else bif (!Aa.2) then some (⟨0,0,0,0⟩:Box) else Qqn fu r1 x5 Aa
def Qnq (fu:Nat) (k3:Int→Option (Bool)) (Aa:Int)  : Option (Bool) :=
  k3 (w64 (Aa+1))
def Qk5 (fu:Nat)  (p1:Pallet) (Ac:List Box) (k3:Int→Option (Bool)) (Ab:Int):Option (Bool) :=
  bif (decide (Ab<(Ac.length:Int))) then Qac (ix Ac Ab) λAa=>Qac (Qat fu Aa.fW 1 p1.fW) λAd=>bif (!Ad) then some (false) else Qac (Qat fu Aa.fD 1 p1.fD) λAf=>bif (!Af) then some (false) else Qac (Qat fu Aa.fH 1 p1.fH) λAg=>bif (!Ag) then some (false) else Qac (Qat fu Aa.fQ 1 p1.fQ) λAe=>bif (!Ae) then some (false) else Qnq fu k3 Ab else some (true)
def Qe8 (fu:Nat)  (p1:Pallet) (Aa:List Box):Nat→Int→Option (Bool)
  | 0=>λ_=>none
  | n+1=>Qk5 fu p1 Aa (Qe8 fu p1 Aa n)
def Qlv (fu:Nat) (p1:Pallet) (Ab:List Box):Option (Bool) :=
  Qac (Qgs fu p1) λAa=>bif (!Aa) then some (false) else Qe8 fu p1 Ab fu 0
def Qjt (fu:Nat) (a1:Int) (b2:Int):Option (Int) :=
  bif (decide (a1>b2)) then some (a1) else some (b2)
def Qgq (fu:Nat) (Aa:Shelf) (Ab:Int) (b6:Box):Option (Shelf) :=
  Qac (Qfh 8 (([]:List Int)) Aa.f0) λAe=>Qac (Qfh 8 Ae (([Ab]:List Int))) λAc=>Qac (Qjt fu Aa.fD b6.fD) λAd=>Qac (Qjt fu Aa.fH b6.fH) λAf=>some (⟨Ac,w64 (Aa.fW+b6.fW),Ad,Af,w64 (Aa.fQ+b6.fQ)⟩:Shelf)
def Qgg (fu:Nat) (k4:List Shelf→Int→Option ((List Shelf))) (Aa:Int) (Ab:List Shelf):Option ((List Shelf)) :=
  k4 Ab (w64 (Aa+1))
def Qjx (fu:Nat)  (p1:Pallet) (Aj:List Box) (Ac:(List Int)) (k4:List Shelf→Int→Option ((List Shelf))) (Aa:List Shelf) (Ab:Int):Option ((List Shelf)) :=
  bif (decide (Ab<(Ac.length:Int))) then Qac (ix Ac Ab) λAe=>Qac (ix Aj Ae) λAd=>bif (decide ((Aa.length:Int)>0)) then Qac (ix Aa (w64 ((Aa.length:Int) - 1))) λAf=>bif (decide ((w64 (Af.fW+Ad.fW))≤p1.fW)) then Qac (ix Aa (w64 ((Aa.length:Int) - 1))) λAr=>bif (decide ((w64 (Af.fQ+Ad.fQ))≤p1.fQ)) then Qac (ix Aa (w64 ((Aa.length:Int) - 1))) λAs=>Qac (ix Ac Ab) λAq=>Qac (Qgq fu Af Ae Ad) λAo=>Qac (ix Aa (w64 ((Aa.length:Int) - 1))) λAv=>Qgg fu k4 Ab (Qhs Aa (w64 ((Aa.length:Int) - 1)) Ao) else Qac (ix Ac Ab) λAu=>Qac (Qgq fu (⟨[],0,0,0,0⟩:Shelf) Ae Ad) λAi=>Qac (Qfh 56 Aa [Ai]) λAm=>Qgg fu k4 Ab Am else Qac (ix Ac Ab) λAp=>Qac (Qgq fu (⟨[],0,0,0,0⟩:Shelf) Ae Ad) λAk=>Qac (Qfh 56 Aa [Ak]) λAh=>Qgg fu k4 Ab Ah else Qac (ix Ac Ab) λAt=>Qac (Qgq fu (⟨[],0,0,0,0⟩:Shelf) Ae Ad) λAl=>Qac (Qfh 56 Aa [Al]) λAg=>Qgg fu k4 Ab Ag else some (Aa)
def Qea (fu:Nat)  (p1:Pallet) (Ab:List Box) (Aa:(List Int)):Nat→List Shelf→Int→Option ((List Shelf))
  | 0=>λ_ _=>none
  | n+1=>Qjx fu p1 Ab Aa (Qea fu p1 Ab Aa n)
def Qj2 (fu:Nat)  (p1:Pallet) (Aa:List Box) (k1:List Int→Int→Option ((List Shelf))) (Ac:List Int) (Ab:Int):Option ((List Shelf)) :=
  bif (decide (Ab<(Aa.length:Int))) then Qac (ix Aa Ab) λAf=>Qac (Qfh 8 Ac (([Af.fD]:List Int))) λAe=>k1 Ae (w64 (Ab+1)) else Qac (Qgw fu Ac) λAd=>Qea fu p1 Aa Ad fu (([]:List Shelf)) 0
def Qgl (fu:Nat)  (p1:Pallet) (Aa:List Box):Nat→List Int→Int→Option ((List Shelf))
  | 0=>λ_ _=>none
  | n+1=>Qj2 fu p1 Aa (Qgl fu p1 Aa n)
def Qoy (fu:Nat) (p1:Pallet) (Aa:List Box):Option ((List Shelf)) :=
  Qac (Qlv fu p1 Aa) λAb=>bif (!Ab) then some (([]:List Shelf)) else Qgl fu p1 Aa fu (([]:List Int)) 0
def Qp4 (fu:Nat) (p1:Pallet) (d2:Int) (h3:Int) (Ac:Int):Option (Bool) :=
  Qac (Qat fu d2 1 p1.fD) λx8=>bif x8 then Qac (Qat fu h3 1 p1.fH) λAb=>bif Ab then Qac (Qat fu Ac 1 p1.fQ) λAa=>some (Aa) else some (false) else some (false)
def Qh7 (fu:Nat)  (p1:Pallet) (Ab:List Shelf) (k1:Int→Option (Bool)) (Aa:Int):Option (Bool) :=
  bif (decide (Aa<(Ab.length:Int))) then Qac (ix Ab Aa) λAc=>Qac (ix Ab Aa) λAe=>Qac (ix Ab Aa) λAf=>Qac (Qp4 fu p1 Ac.fD Ac.fH Ac.fQ) λAd=>bif (!Ad) then some (false) else k1 (w64 (Aa+1)) else some (true)
def Qez (fu:Nat)  (p1:Pallet) (Aa:List Shelf):Nat→Int→Option (Bool)
  | 0=>λ_=>none
  | n+1=>Qh7 fu p1 Aa (Qez fu p1 Aa n)
def Qlm (fu:Nat) (p1:Pallet) (Ab:List Shelf):Option (Bool) :=
  Qac (Qgs fu p1) λAa=>bif (!Aa) then some (false) else Qez fu p1 Ab fu 0
def Qms (fu:Nat) (k7:List Layer→Int→Option ((List Layer))) (Aa:Int) (Ab:List Layer):Option ((List Layer)) :=
  k7 Ab (w64 (Aa+1))
def Qc3 (fu:Nat) (k7:List Layer→Int→Option ((List Layer))) (Ae:Int) (Ac:Shelf) (Ab:List Layer) (Ad:Int):Option ((List Layer)) :=
  Qac (ix Ab (w64 (Ad - 1))) λAa=>Qac (Qfh 8 (([]:List Int)) Aa.fP) λAg=>Qac (Qfh 8 Ag (([Ae]:List Int))) λAh=>Qac (Qjt fu Aa.fH Ac.fH) λAf=>Qac (ix Ab (w64 (Ad - 1))) λAi=>Qms fu k7 Ae (Qhs Ab (w64 (Ad - 1)) (⟨Ah,w64 (Aa.fD+Ac.fD),Af,w64 (Aa.fQ+Ac.fQ)⟩:Layer))
def Qiv (fu:Nat)  (p1:Pallet) (Ae:List Shelf) (k7:List Layer→Int→Option ((List Layer))) (Aa:List Layer) (Ac:Int):Option ((List Layer)) :=
  bif (decide (Ac<(Ae.length:Int))) then Qac (ix Ae Ac) λAb=>bif ((Aa.length:Int)==0) then Qac (Qfh 48 Aa [(⟨[],0,0,0⟩:Layer)]) λAf=>Qc3 fu k7 Ac Ab Af (w64 ((Aa.length:Int)+1)) else Qac (ix Aa (w64 ((Aa.length:Int) - 1))) λAd=>bif (decide ((w64 (Ad.fD+Ab.fD))>p1.fD)) then Qac (Qfh 48 Aa [(⟨[],0,0,0⟩:Layer)]) λAg=>Qc3 fu k7 Ac Ab Ag (w64 ((Aa.length:Int)+1)) else Qac (ix Aa (w64 ((Aa.length:Int) - 1))) λAi=>bif (decide ((w64 (Ad.fQ+Ab.fQ))>p1.fQ)) then Qac (Qfh 48 Aa [(⟨[],0,0,0⟩:Layer)]) λAh=>Qc3 fu k7 Ac Ab Ah (w64 ((Aa.length:Int)+1)) else Qc3 fu k7 Ac Ab Aa (Aa.length:Int) else some (Aa)
def Qbm (fu:Nat)  (p1:Pallet) (Aa:List Shelf):Nat→List Layer→Int→Option ((List Layer))
  | 0=>λ_ _=>none
  | n+1=>Qiv fu p1 Aa (Qbm fu p1 Aa n)
def Qni (fu:Nat) (p1:Pallet) (Aa:List Shelf):Option ((List Layer)) :=
  Qac (Qlm fu p1 Aa) λAb=>bif (!Ab) then some (([]:List Layer)) else Qbm fu p1 Aa fu (([]:List Layer)) 0
def Qin (fu:Nat)  (p1:Pallet) (Ab:List Layer) (k1:Int→Option (Bool)) (Aa:Int):Option (Bool) :=
  bif (decide (Aa<(Ab.length:Int))) then Qac (ix Ab Aa) λAc=>Qac (ix Ab Aa) λAe=>Qac (ix Ab Aa) λAf=>Qac (Qp4 fu p1 Ac.fD Ac.fH Ac.fQ) λAd=>bif (!Ad) then some (false) else k1 (w64 (Aa+1)) else some (true)
def Qfv (fu:Nat)  (p1:Pallet) (Aa:List Layer):Nat→Int→Option (Bool)
  | 0=>λ_=>none
  | n+1=>Qin fu p1 Aa (Qfv fu p1 Aa n)
def Qm2 (fu:Nat) (p1:Pallet) (Ab:List Layer):Option (Bool) :=
  Qac (Qgs fu p1) λAa=>bif (!Aa) then some (false) else Qfv fu p1 Ab fu 0
def Qoe (fu:Nat) (k7:List Load→Int→Option ((List Load))) (Ab:Int) (Aa:List Load):Option ((List Load)) :=
  k7 Aa (w64 (Ab+1))
def Qde (fu:Nat) (k7:List Load→Int→Option ((List Load))) (Ad:Int) (Ae:Layer) (Ab:List Load) (Ac:Int):Option ((List Load)) :=
  Qac (ix Ab (w64 (Ac - 1))) λAa=>Qac (Qfh 8 (([]:List Int)) Aa.fK) λAg=>Qac (Qfh 8 Ag (([Ad]:List Int))) λAf=>Qac (ix Ab (w64 (Ac - 1))) λAh=>Qoe fu k7 Ad (Qhs Ab (w64 (Ac - 1)) (⟨Af,w64 (Aa.fH+Ae.fH),w64 (Aa.fQ+Ae.fQ)⟩:Load))
def Qle (fu:Nat)  (p1:Pallet) (Ad:List Layer) (k7:List Load→Int→Option ((List Load))) (Aa:List Load) (Ab:Int):Option ((List Load)) :=
  bif (decide (Ab<(Ad.length:Int))) then Qac (ix Ad Ab) λAc=>bif ((Aa.length:Int)==0) then Qac (Qfh 40 Aa [(⟨[],0,0⟩:Load)]) λAf=>Qde fu k7 Ab Ac Af (w64 ((Aa.length:Int)+1)) else Qac (ix Aa (w64 ((Aa.length:Int) - 1))) λAe=>bif (decide ((w64 (Ae.fH+Ac.fH))>p1.fH)) then Qac (Qfh 40 Aa [(⟨[],0,0⟩:Load)]) λAh=>Qde fu k7 Ab Ac Ah (w64 ((Aa.length:Int)+1)) else Qac (ix Aa (w64 ((Aa.length:Int) - 1))) λAi=>bif (decide ((w64 (Ae.fQ+Ac.fQ))>p1.fQ)) then Qac (Qfh 40 Aa [(⟨[],0,0⟩:Load)]) λAg=>Qde fu k7 Ab Ac Ag (w64 ((Aa.length:Int)+1)) else Qde fu k7 Ab Ac Aa (Aa.length:Int) else some (Aa)
def Qbt (fu:Nat)  (p1:Pallet) (Aa:List Layer):Nat→List Load→Int→Option ((List Load))
  | 0=>λ_ _=>none
  | n+1=>Qle fu p1 Aa (Qbt fu p1 Aa n)
def Qou (fu:Nat) (p1:Pallet) (Aa:List Layer):Option ((List Load)) :=
  Qac (Qm2 fu p1 Aa) λAb=>bif (!Ab) then some (([]:List Load)) else Qbt fu p1 Aa fu (([]:List Load)) 0
def Qku (fu:Nat) (Ak:List Spot→Int→Int→Option ((List Spot))) (Ah:List Box) (Aj:Int) (Ag:Int) (Af:Int) (Ai:Int) (Aa:Shelf) (Am:List Spot→Int→Int→Option ((List Spot))) (Ac:List Spot) (Ae:Int) (Ab:Int):Option ((List Spot)) :=
  bif (decide (Ab<(Aa.f0.length:Int))) then Qac (ix Aa.f0 Ab) λAd=>Qac (ix Ac Ad) λAo=>Qac (ix Aa.f0 Ab) λAp=>Qac (ix Ah Ad) λAl=>Am (Qhs Ac Ad (⟨Aj,Ae,Af,Ag⟩:Spot)) (w64 (Ae+Al.fW)) (w64 (Ab+1)) else Ak Ac (w64 (Af+Aa.fD)) (w64 (Ai+1))
def Qgc (fu:Nat) (Af:List Spot→Int→Int→Option ((List Spot))) (Ac:List Box) (Ae:Int) (Ab:Int) (Ag:Int) (Ad:Int) (Aa:Shelf):Nat→List Spot→Int→Int→Option ((List Spot))
  | 0=>λ_ _ _=>none
  | n+1=>Qku fu Af Ac Ae Ab Ag Ad Aa (Qgc fu Af Ac Ae Ab Ag Ad Aa n)
def Qkf (fu:Nat) (Ag:List Spot→Int→Int→Option ((List Spot))) (Af:List Box) (Ak:(List Shelf)) (Ah:Int) (Ac:Int) (Am:Int) (Aa:Layer) (Ai:List Spot→Int→Int→Option ((List Spot))) (Ad:List Spot) (Al:Int) (Ab:Int):Option ((List Spot)) :=
  bif (decide (Ab<(Aa.fP.length:Int))) then Qac (ix Aa.fP Ab) λAj=>Qac (ix Ak Aj) λAe=>Qgc fu Ai Af Ah Ac Al Ab Ae fu Ad 0 0 else Ag Ad (w64 (Ac+Aa.fH)) (w64 (Am+1))
def Qdg (fu:Nat) (Ac:List Spot→Int→Int→Option ((List Spot))) (Ab:List Box) (Af:(List Shelf)) (Ae:Int) (Aa:Int) (Ag:Int) (Ad:Layer):Nat→List Spot→Int→Int→Option ((List Spot))
  | 0=>λ_ _ _=>none
  | n+1=>Qkf fu Ac Ab Af Ae Aa Ag Ad (Qdg fu Ac Ab Af Ae Aa Ag Ad n)
def Qkz (fu:Nat) (Al:List Spot→Int→Option ((List Spot))) (Ah:List Box) (Ak:(List Shelf)) (Af:(List Layer)) (Ac:(List Load)) (Aa:Int) (Ai:List Spot→Int→Int→Option ((List Spot))) (Ad:List Spot) (Ag:Int) (Ab:Int):Option ((List Spot)) :=
  Qac (ix Ac Aa) λAe=>bif (decide (Ab<(Ae.fK.length:Int))) then Qac (ix Ac Aa) λAo=>Qac (ix Ae.fK Ab) λAm=>Qac (ix Af Am) λAj=>Qdg fu Ai Ah Ak Aa Ag Ab Aj fu Ad 0 0 else Al Ad (w64 (Aa+1))
def Qcg (fu:Nat) (Af:List Spot→Int→Option ((List Spot))) (Ac:List Box) (Ae:(List Shelf)) (Ab:(List Layer)) (Aa:(List Load)) (Ad:Int):Nat→List Spot→Int→Int→Option ((List Spot))
  | 0=>λ_ _ _=>none
  | n+1=>Qkz fu Af Ac Ae Ab Aa Ad (Qcg fu Af Ac Ae Ab Aa Ad n)
def Qlb (fu:Nat)  (Af:List Box) (Ag:(List Shelf)) (Ad:(List Layer)) (Ac:(List Load)) (Ae:List Spot→Int→Option ((List Spot))) (Ab:List Spot) (Aa:Int):Option ((List Spot)) :=
  bif (decide (Aa<(Ac.length:Int))) then Qcg fu Ae Af Ag Ad Ac Aa fu Ab 0 0 else some (Ab)
def Qbo (fu:Nat)  (Ad:List Box) (Aa:(List Shelf)) (Ab:(List Layer)) (Ac:(List Load)):Nat→List Spot→Int→Option ((List Spot))
  | 0=>λ_ _=>none
  | n+1=>Qlb fu Ad Aa Ab Ac (Qbo fu Ad Aa Ab Ac n)
def Ql1 (fu:Nat) (p1:Pallet) (Aa:List Box):Option ((List Spot)) :=
  Qac (mk 32 (⟨(0:Int),(0:Int),(0:Int),(0:Int)⟩:Spot) (Aa.length:Int)) λAe=>Qac (Qlv fu p1 Aa) λAd=>bif (!Ad) then some (([]:List Spot)) else Qac (Qoy fu p1 Aa) λAc=>Qac (Qni fu p1 Ac) λAb=>Qac (Qou fu p1 Ab) λAf=>Qbo fu Aa Ac Ab Af fu Ae 0
def Qjf (fu:Nat) (k3:Int→Int→Option (Int)) (Ab:Int) (Aa:Int):Option (Int) :=
  k3 Aa (w64 (Ab+1))
def Qk6 (fu:Nat)  (Ac:List Spot) (k3:Int→Int→Option (Int)) (Ab:Int) (Aa:Int):Option (Int) :=
  bif (decide (Aa<(Ac.length:Int))) then Qac (ix Ac Aa) λAd=>Qac (Qat fu Ad.fJ 0 999999) λAe=>bif Ae then Qac (ix Ac Aa) λAg=>Qac (Qjt fu Ab (w64 (Ad.fJ+1))) λAf=>Qjf fu k3 Aa Af else Qjf fu k3 Aa Ab else some (Ab)
def Qfb (fu:Nat)  (Aa:List Spot):Nat→Int→Int→Option (Int)
  | 0=>λ_ _=>none
  | n+1=>Qk6 fu Aa (Qfb fu Aa n)
def Qoo (fu:Nat) (Aa:List Spot):Option (Int) :=
  Qfb fu Aa fu 0 0
def Qls (fu:Nat) (Ac:List Box→Int→Option (Plan×Bool)) (Ab:Int) (Aa:List Box):Option (Plan×Bool) :=
  Ac Aa (w64 (Ab+1))
def Ql5 (fu:Nat) (Af:List Spot→Int→Int→Option (Plan×Bool)) (Ad:Int) (Ah:Int) (Ab:(List Spot)) (Aj:List Spot→Int→Option (Plan×Bool)) (Ae:List Spot) (Ac:Int):Option (Plan×Bool) :=
  bif (decide (Ac<(Ab.length:Int))) then Qac (ix Ab Ac) λAa=>Qac (Qfh 32 Ae (([(⟨w64 (Aa.fJ+Ad),Aa.fX,Aa.fY,Aa.fZ⟩:Spot)]:List Spot))) λAi=>Aj Ai (w64 (Ac+1)) else Qac (Qoo fu Ab) λAg=>Af Ae (w64 (Ad+Ag)) (w64 (Ah+1))
def Qf2 (fu:Nat) (Ab:List Spot→Int→Int→Option (Plan×Bool)) (Ad:Int) (Ac:Int) (Aa:(List Spot)):Nat→List Spot→Int→Option (Plan×Bool)
  | 0=>λ_ _=>none
  | n+1=>Ql5 fu Ab Ad Ac Aa (Qf2 fu Ab Ad Ac Aa n)
def Qmu (fu:Nat) (Ah:List Spot→Int→Int→Option (Plan×Bool)) (r1:Request) (Ac:(List Carton)) (Aj:List Spot) (Al:Int) (Ad:Int) (Ae:List Box→Int→Option (Plan×Bool)) (Ab:List Box) (Aa:Int):Option (Plan×Bool) :=
  bif (decide (Aa<(Ac.length:Int))) then Qac (ix Ac Aa) λAf=>bif (Af.f9==Ad) then Qac (ix Ac Aa) λAm=>Qac (Qrg fu r1 Af) λAk=>Qac (Qfh 32 Ab (([Ak]:List Box))) λAi=>Qls fu Ae Aa Ai else Qls fu Ae Aa Ab else Qac (Ql1 fu r1.fJ Ab) λAg=>Qf2 fu Ah Al Ad Ag fu Aj 0
def Qf0 (fu:Nat) (Aa:List Spot→Int→Int→Option (Plan×Bool)) (r1:Request) (Ae:(List Carton)) (Ab:List Spot) (Ad:Int) (Ac:Int):Nat→List Box→Int→Option (Plan×Bool)
  | 0=>λ_ _=>none
  | n+1=>Qmu fu Aa r1 Ae Ab Ad Ac (Qf0 fu Aa r1 Ae Ab Ad Ac n)
def Ql6 (fu:Nat)  (r1:Request) (Ac:(List Carton)) (Ae:(List (List Int))) (Ad:List Spot→Int→Int→Option (Plan×Bool)) (Aa:List Spot) (Af:Int) (Ab:Int):Option (Plan×Bool) :=
  bif (decide (Ab<(Ae.length:Int))) then Qf0 fu Ad r1 Ac Aa Af Ab fu (([]:List Box)) 0 else some ((⟨Ac,Aa⟩:Plan),true)
def Qci (fu:Nat)  (r1:Request) (Aa:(List Carton)) (Ab:(List (List Int))):Nat→List Spot→Int→Int→Option (Plan×Bool)
  | 0=>λ_ _ _=>none
  | n+1=>Ql6 fu r1 Aa Ab (Qci fu r1 Aa Ab n)
def Qqg (fu:Nat) (r1:Request):Option (Plan×Bool) :=
  Qac (Qfd fu r1) λAa=>bif (Aa != 0) then some ((⟨[],[]⟩:Plan),false) else Qac (Qlj fu r1) λAb=>Qac (Qhj fu r1) λAc=>Qci fu r1 Ab Ac fu (([]:List Spot)) 0 0
def Qhg (fu:Nat) (k4:Int→Option (Bool)) (Aa:Int)  : Option (Bool) :=
  k4 (w64 (Aa+1))
def Qig (fu:Nat)  (x1:Carton) (k4:Int→Option (Bool)) (Aa:Int):Option (Bool) :=
  bif (decide (Aa<(x1.f8.length:Int))) then Qac (ix x1.f8 Aa) λAb=>Qac (Qat fu Ab 0 999) λAd=>bif (!Ad) then some (false) else bif (decide (Aa>0)) then Qac (ix x1.f8 Aa) λAe=>Qac (ix x1.f8 (w64 (Aa - 1))) λAc=>bif (decide (Ab≤Ac)) then some (false) else Qhg fu k4 Aa else Qhg fu k4 Aa else some (true)
def Qd3 (fu:Nat)  (x1:Carton):Nat→Int→Option (Bool)
  | 0=>λ_=>none
  | n+1=>Qig fu x1 (Qd3 fu x1 n)
def Qkj (fu:Nat) (x1:Carton)  : Option (Bool) :=
  Qd3 fu x1 fu 0
def Qlk (fu:Nat) (x1:Carton):Option (Bool) :=
  Qac (Qnm fu x1.fc) λAa=>bif (!Aa) then some (false) else Qac (Qat fu x1.f9 0 3) λAb=>bif (!Ab) then some (false) else bif (decide ((x1.f8.length:Int)>100)) then some (false) else Qkj fu x1
def Qpn (fu:Nat) (k4:Int→Option (Bool)) (Aa:Int)  : Option (Bool) :=
  k4 (w64 (Aa+1))
def Qmd (fu:Nat)  (x1:Plan) (k4:Int→Option (Bool)) (Aa:Int):Option (Bool) :=
  bif (decide (Aa<(x1.fE.length:Int))) then Qac (ix x1.fa Aa) λAb=>Qac (ix x1.fE Aa) λAe=>Qac (Qlk fu Ae) λAc=>bif (!Ac) then some (false) else Qac (Qat fu Ab.fJ 0 2000) λAd=>bif (!Ad) then some (false) else Qac (Qat fu Ab.fX 0 2000) λAh=>bif (!Ah) then some (false) else Qac (Qat fu Ab.fY 0 2000) λAg=>bif (!Ag) then some (false) else Qac (Qat fu Ab.fZ 0 2000) λAf=>bif (!Af) then some (false) else Qpn fu k4 Aa else some (true)
def Qfy (fu:Nat)  (x1:Plan):Nat→Int→Option (Bool)
  | 0=>λ_=>none
  | n+1=>Qmd fu x1 (Qfy fu x1 n)
def Qpf (fu:Nat) (x1:Plan)  : Option (Bool) :=
  Qfy fu x1 fu 0
def Qqq (fu:Nat) (x1:Plan):Option (Bool) :=
  bif ((x1.fE.length:Int) != (x1.fa.length:Int)) then some (false) else bif (decide ((x1.fE.length:Int)>100)) then some (false) else Qpf fu x1
def Qkt (fu:Nat)  (Ac:List Int) (k1:ByteArray→Int→Option (ByteArray)) (Ab:ByteArray) (Aa:Int):Option (ByteArray) :=
  bif (decide (Aa<(Ac.length:Int))) then Qac (Qu4 Ab (⟨#[32]⟩:ByteArray)) λAg=>Qac (ix Ac Aa) λAd=>Qac (Qkp fu Ad) λAf=>Qac (Qu4 Ag Af) λAe=>k1 Ae (w64 (Aa+1)) else some (Ab)
def Qeb (fu:Nat)  (Aa:List Int):Nat→ByteArray→Int→Option (ByteArray)
  | 0=>λ_ _=>none
  | n+1=>Qkt fu Aa (Qeb fu Aa n)
def Qo4 (fu:Nat) (x1:Carton) (Aa:Spot):Option (ByteArray) :=
  Qac (Qfh 8 (([x1.fc,x1.f9,Aa.fJ,Aa.fX,Aa.fY,Aa.fZ]:List Int)) x1.f8) λAb=>Qeb fu Ab fu (⟨#[99,97,114,116,111,110]⟩:ByteArray) 0
def Qiw (fu:Nat)  (x1:Plan) (k1:ByteArray→Int→Option (ByteArray)) (Ab:ByteArray) (Aa:Int):Option (ByteArray) :=
  bif (decide (Aa<(x1.fE.length:Int))) then Qac (ix x1.fE Aa) λAc=>Qac (ix x1.fa Aa) λAd=>Qac (Qo4 fu Ac Ad) λAf=>Qac (Qu4 Ab Af) λAe=>Qac (Qu4 Ae (⟨#[10]⟩:ByteArray)) λAg=>k1 Ag (w64 (Aa+1)) else some (Ab)
def Qeh (fu:Nat)  (x1:Plan):Nat→ByteArray→Int→Option (ByteArray)
  | 0=>λ_ _=>none
  | n+1=>Qiw fu x1 (Qeh fu x1 n)
def Qnh (fu:Nat) (x1:Plan):Option (ByteArray) :=
  Qac (Qqq fu x1) λAa=>bif (!Aa) then some (⟨#[]⟩:ByteArray) else Qeh fu x1 fu (⟨#[]⟩:ByteArray) 0
def Qr1 (fu:Nat) (Aa:ByteArray):Option (ByteArray×Int) :=
  Qac (Qo5 fu Aa) λx2=>bif (x2 != 0) then some ((⟨#[]⟩:ByteArray),x2) else Qac (Qhv fu Aa) λx7=>Qac (Qqg fu x7.1) λAc=>Qac (Qnh fu Ac.1) λAb=>some (Ab,0)
def Qlq (fu:Nat) (Aa:Int):Option (ByteArray) :=
  Qac (Qat fu Aa 0 (w64 ((((([(⟨#[111,107]⟩:ByteArray),(⟨#[116,101,120,116]⟩:ByteArray),(⟨#[98,111,117,110,100,115]⟩:ByteArray),(⟨#[110,97,109,101,115]⟩:ByteArray),(⟨#[116,97,98,108,101]⟩:ByteArray),(⟨#[117,110,105,116]⟩:ByteArray),(⟨#[112,97,108,108,101,116]⟩:ByteArray)]:List ByteArray)).length:Int)) - 1))) λx7=>bif (!x7) then some (⟨#[]⟩:ByteArray) else Qac (ix (([(⟨#[111,107]⟩:ByteArray),(⟨#[116,101,120,116]⟩:ByteArray),(⟨#[98,111,117,110,100,115]⟩:ByteArray),(⟨#[110,97,109,101,115]⟩:ByteArray),(⟨#[116,97,98,108,101]⟩:ByteArray),(⟨#[117,110,105,116]⟩:ByteArray),(⟨#[112,97,108,108,101,116]⟩:ByteArray)]:List ByteArray)) Aa) λAb=>some (Ab)
def Qm9 (fu:Nat) (Ab:ByteArray):Option (ByteArray) :=
  Qac (Qr1 fu Ab) λx2=>bif (x2.2 != 0) then Qac (Qlq fu x2.2) λx7=>Qac (Qu4 (⟨#[33,32]⟩:ByteArray) x7) λAa=>Qac (Qu4 Aa (⟨#[10]⟩:ByteArray)) λAc=>some (Ac) else some (x2.1)
def Qnk (fu:Nat) (k3:List ByteArray→Int→Int→Option ((List ByteArray))) (Aa:Int) (Ab:List ByteArray) (Ac:Int):Option ((List ByteArray)) :=
  k3 Ab Ac (w64 (Aa+1))
def Qnv (fu:Nat)  (Ab:ByteArray) (Af:Int) (k3:List ByteArray→Int→Int→Option ((List ByteArray))) (Ad:List ByteArray) (Ac:Int) (Aa:Int):Option ((List ByteArray)) :=
  bif (decide (Aa<((Ab.size:Int)))) then Qac (sx Ab Aa) λAg=>bif (Ag==Af) then Qac (ssl Ab Ac Aa) λAi=>Qac (Qfh 16 Ad (([Ai]:List ByteArray))) λAj=>Qnk fu k3 Aa Aj (w64 (Aa+1)) else Qnk fu k3 Aa Ad Ac else Qac (ssl Ab Ac (Ab.size:Int)) λAe=>Qac (Qfh 16 Ad (([Ae]:List ByteArray))) λAh=>some (Ah)
def Qgx (fu:Nat)  (Aa:ByteArray) (Ab:Int):Nat→List ByteArray→Int→Int→Option ((List ByteArray))
  | 0=>λ_ _ _=>none
  | n+1=>Qnv fu Aa Ab (Qgx fu Aa Ab n)
def Qp1 (fu:Nat) (Aa:ByteArray) (Ab:Int):Option ((List ByteArray)) :=
  Qgx fu Aa Ab fu (([]:List ByteArray)) 0 0
def Qsr (fu:Nat) (x1:ByteArray):Option (Int×Bool):=Jao x1
def Qay (fu:Nat) (n1:Int) (Aa:Int) (Ab:Int):Option (Bool) :=
  bif (decide (n1≥Aa)) then some (decide (n1≤Ab)) else some (false)
def Qsp (fu:Nat) (x1:Int):Option ByteArray:=Jai x1
def Qnx (fu:Nat) (n1:Int):Option (ByteArray) :=
  Qac (Qsp fu n1) λx2=>some (x2)
def Qpj (fu:Nat) (x2:Int×Bool)  : Option (Int×Bool) :=
  some (x2.1,true)
def Qh5 (fu:Nat) (Aa:ByteArray):Option (Int×Bool) :=
  Qac (Qsr fu Aa) λx2=>bif x2.2 then some (0,false) else Qac (Qay fu x2.1 0 999999) λAc=>bif (!Ac) then some (0,false) else Qac (Qnx fu x2.1) λAb=>bif (!(Ab.toList==Aa.toList)) then some (0,false) else Qpj fu x2
def Qkn (fu:Nat)  (Ac:List ByteArray) (k2:List Int→Int→Option ((List Int)×Bool)) (Ab:List Int) (Aa:Int):Option ((List Int)×Bool) :=
  bif (decide (Aa<(Ac.length:Int))) then Qac (ix Ac Aa) λAe=>Qac (Qh5 fu Ae) λAd=>bif (!Ad.2) then some (([]:List Int),false) else Qac (Qfh 8 Ab (([Ad.1]:List Int))) λAf=>k2 Af (w64 (Aa+1)) else some (Ab,true)
def Qe6 (fu:Nat)  (Aa:List ByteArray):Nat→List Int→Int→Option ((List Int)×Bool)
  | 0=>λ_ _=>none
  | n+1=>Qkn fu Aa (Qe6 fu Aa n)
def Qob (fu:Nat) (x4:(List ByteArray))  : Option ((List Int)×Bool) :=
  Qac (sls x4 1 (x4.length:Int)) λAa=>Qe6 fu Aa fu (([]:List Int)) 0
def Qcd (fu:Nat) (Ac:ByteArray) (Ab:ByteArray) (Aa:Int):Option ((List Int)×Bool) :=
  Qac (Qp1 fu Ac 32) λx4=>Qac (ix x4 0) λAd=>bif (!(Ad.toList==Ab.toList)) then some (([]:List Int),false) else bif ((x4.length:Int) != (w64 (Aa+1))) then some (([]:List Int),false) else Qob fu x4
def Qpc (fu:Nat) (r1:Request) (Aa:ByteArray):Option (Int×Request) :=
  bif (Aa.toList==(⟨#[119,97,121,32,102,105,114,115,116]⟩:ByteArray).toList) then some (0,(⟨0,r1.fJ,r1.fU,r1.fR,r1.fG,r1.fT,r1.fV⟩:Request)) else bif (Aa.toList==(⟨#[119,97,121,32,110,101,120,116]⟩:ByteArray).toList) then some (0,(⟨1,r1.fJ,r1.fU,r1.fR,r1.fG,r1.fT,r1.fV⟩:Request)) else Qac (Qcd fu Aa (⟨#[112,97,108,108,101,116]⟩:ByteArray) 4) λAd=>bif Ad.2 then Qac (ix Ad.1 0) λAo=>Qac (ix Ad.1 1) λAu=>Qac (ix Ad.1 2) λBa=>Qac (ix Ad.1 3) λAt=>some (1,(⟨r1.fe,(⟨Ao,Au,Ba,At⟩:Pallet),r1.fU,r1.fR,r1.fG,r1.fT,r1.fV⟩:Request)) else Qac (Qcd fu Aa (⟨#[99,108,97,115,115,101,115]⟩:ByteArray) 1) λAg=>bif Ag.2 then Qac (ix Ag.1 0) λAm=>some (2,(⟨r1.fe,r1.fJ,Am,r1.fR,r1.fG,r1.fT,r1.fV⟩:Request)) else Qac (Qcd fu Aa (⟨#[119,105,116,104]⟩:ByteArray) 2) λAe=>bif Ae.2 then Qac (ix Ae.1 0) λAh=>Qac (ix Ae.1 1) λAi=>Qac (Qfh 16 r1.fR (([(⟨Ah,Ai⟩:Pair)]:List Pair))) λAv=>some (3,(⟨r1.fe,r1.fJ,r1.fU,Av,r1.fG,r1.fT,r1.fV⟩:Request)) else Qac (Qcd fu Aa (⟨#[116,121,112,101]⟩:ByteArray) 7) λAb=>bif Ab.2 then Qac (ix Ab.1 0) λAy=>Qac (ix Ab.1 1) λAj=>Qac (ix Ab.1 2) λBd=>Qac (ix Ab.1 3) λAp=>Qac (ix Ab.1 4) λBe=>Qac (ix Ab.1 5) λAk=>Qac (ix Ab.1 6) λBb=>Qac (Qfh 56 r1.fG (([(⟨Ay,Aj,Bd,Ap,Be,Ak,Bb⟩:Typ)]:List Typ))) λAw=>some (4,(⟨r1.fe,r1.fJ,r1.fU,r1.fR,Aw,r1.fT,r1.fV⟩:Request)) else Qac (Qcd fu Aa (⟨#[109,97,115,116,101,114]⟩:ByteArray) 1) λAf=>bif Af.2 then Qac (ix Af.1 0) λBg=>some (5,(⟨r1.fe,r1.fJ,r1.fU,r1.fR,r1.fG,Bg,r1.fV⟩:Request)) else Qac (Qcd fu Aa (⟨#[105,116,101,109]⟩:ByteArray) 7) λAc=>bif Ac.2 then Qac (ix Ac.1 0) λAx=>Qac (ix Ac.1 1) λBc=>Qac (ix Ac.1 2) λAs=>Qac (ix Ac.1 3) λAq=>Qac (ix Ac.1 4) λAz=>Qac (ix Ac.1 5) λAl=>Qac (ix Ac.1 6) λAr=>Qac (Qfh 56 r1.fV (([(⟨Ax,Bc,As,Aq,Az,Al,Ar⟩:Item)]:List Item))) λBf=>some (6,(⟨r1.fe,r1.fJ,r1.fU,r1.fR,r1.fG,r1.fT,Bf⟩:Request)) else some ((-1),r1)
def Qgo (fu:Nat)   : Option (Bool) :=
  some (false)
def Qlo (fu:Nat) (Aa:Int) (Ab:Int):Option (Bool) :=
  bif (Ab==0) then bif (Ab==0) then some (Aa==(w64 (Ab - 1))) else bif (Ab==3) then bif (Aa==2) then some (true) else some (Aa==3) else bif (Ab==4) then Qac (Qay fu Aa 2 4) λAg=>some (Ag) else bif (Ab==5) then Qac (Qay fu Aa 2 4) λAf=>some (Af) else bif (Ab==6) then bif (Aa==5) then some (true) else some (Aa==6) else Qgo fu else bif (Ab==1) then bif (Ab==1) then some (Aa==(w64 (Ab - 1))) else bif (Ab==3) then bif (Aa==2) then some (true) else some (Aa==3) else bif (Ab==4) then Qac (Qay fu Aa 2 4) λAc=>some (Ac) else bif (Ab==5) then Qac (Qay fu Aa 2 4) λAh=>some (Ah) else bif (Ab==6) then bif (Aa==5) then some (true) else some (Aa==6) else Qgo fu else bif (Ab==2) then some (Aa==(w64 (Ab - 1))) else bif (Ab==3) then bif (Aa==2) then some (true) else some (Aa==3) else bif (Ab==4) then Qac (Qay fu Aa 2 4) λAd=>some (Ad) else bif (Ab==5) then Qac (Qay fu Aa 2 4) λAe=>some (Ae) else bif (Ab==6) then bif (Aa==5) then some (true) else some (Aa==6) else Qgo fu
def Qh9 (fu:Nat)  (x5:(List ByteArray)) (Ac:List ByteArray) (k1:Int→Int→Int→Int→Int→Int→List Pair→List Typ→Int→List Item→Int→Int→Option (Request×Int)) (Aj:Int) (Ao:Int) (Am:Int) (Ah:Int) (Ad:Int) (Ai:Int) (Af:List Pair) (Ak:List Typ) (Ae:Int) (Ag:List Item) (Al:Int) (Ab:Int):Option (Request×Int) :=
  bif (decide (Ab<(Ac.length:Int))) then Qac (ix Ac Ab) λAr=>Qac (Qpc fu ((⟨Aj,(⟨Ao,Am,Ah,Ad⟩:Pallet),Ai,Af,Ak,Ae,Ag⟩:Request)) Ar) λAa=>Qac (Qlo fu Al Aa.1) λAp=>bif (!Ap) then some ((⟨0,(⟨0,0,0,0⟩:Pallet),0,[],[],0,[]⟩:Request),Ab) else k1 Aa.2.fe Aa.2.fJ.fW Aa.2.fJ.fD Aa.2.fJ.fH Aa.2.fJ.fQ Aa.2.fU Aa.2.fR Aa.2.fG Aa.2.fT Aa.2.fV Aa.1 (w64 (Ab+1)) else bif (decide (Al<5)) then some ((⟨0,(⟨0,0,0,0⟩:Pallet),0,[],[],0,[]⟩:Request),w64 ((x5.length:Int) - 1)) else Qac (ix x5 (w64 ((x5.length:Int) - 1))) λAq=>bif (!(Aq.toList==(⟨#[]⟩:ByteArray).toList)) then some ((⟨0,(⟨0,0,0,0⟩:Pallet),0,[],[],0,[]⟩:Request),w64 ((x5.length:Int) - 1)) else some ((⟨Aj,(⟨Ao,Am,Ah,Ad⟩:Pallet),Ai,Af,Ak,Ae,Ag⟩:Request),(-1))
def Qey (fu:Nat)  (x5:(List ByteArray)) (Aa:List ByteArray):Nat→Int→Int→Int→Int→Int→Int→List Pair→List Typ→Int→List Item→Int→Int→Option (Request×Int)
  | 0=>λ_ _ _ _ _ _ _ _ _ _ _ _=>none
  | n+1=>Qh9 fu x5 Aa (Qey fu x5 Aa n)
def Qhx (fu:Nat) (Aa:ByteArray):Option (Request×Int) :=
  Qac (Qp1 fu Aa 10) λx5=>bif (decide ((w64 ((x5.length:Int) - 1))>60)) then some ((⟨0,(⟨0,0,0,0⟩:Pallet),0,[],[],0,[]⟩:Request),60) else Qac (sls x5 0 (w64 ((x5.length:Int) - 1))) λAb=>Qey fu x5 Ab fu 0 0 0 0 0 0 (([]:List Pair)) (([]:List Typ)) 0 (([]:List Item)) ((-1)) 0
def Qnu (fu:Nat) (t1:Typ) (x2:Int):Option (Bool) :=
  some (t1.f4==x2)
def Qb9 (fu:Nat)  (Ab:List Typ) (f5:Typ→Option Bool) (k1:Int→Option (Int)) (Aa:Int):Option (Int) :=
  bif (decide (Aa<(Ab.length:Int))) then Qac (ix Ab Aa) λAd=>Qac (f5 Ad) λAc=>bif Ac then some (Aa) else k1 (w64 (Aa+1)) else some ((-1))
def Qa2 (fu:Nat)  (Aa:List Typ) (f5:Typ→Option Bool):Nat→Int→Option (Int)
  | 0=>λ_=>none
  | n+1=>Qb9 fu Aa f5 (Qa2 fu Aa f5 n)
def Qbh (fu:Nat) (Aa:List Typ) (f5:Typ→Option Bool):Option (Int) :=
  Qa2 fu Aa f5 fu 0
def Qhi (fu:Nat) (r1:Request) (Ad:Int):Option (Typ×Bool) :=
  Qac (Qbh fu r1.fG (λAc=>Qnu fu Ac Ad)) λAa=>bif (decide (Aa<0)) then some ((⟨0,0,0,0,0,0,0⟩:Typ),false) else Qac (ix r1.fG Aa) λAb=>some (Ab,true)
def Qhf (fu:Nat) (r1:Request):Option (Typ×Bool) :=
  Qac (Qhi fu r1 r1.fT) λAa=>some (Aa.1,Aa.2)
def Qds (fu:Nat) (n1:Int):Option (Bool) :=
  Qac (Qay fu n1 1 2000) λx2=>some (x2)
def Qel (fu:Nat) (x1:Pallet):Option (Bool) :=
  Qac (Qds fu x1.fW) λx5=>bif x5 then Qac (Qds fu x1.fD) λAc=>bif Ac then Qac (Qds fu x1.fH) λAb=>bif Ab then Qac (Qay fu x1.fQ 1 100000) λAa=>some (Aa) else some (false) else some (false) else some (false)
def Qca (fu:Nat)  (Ab:List Pair) (f5:Pair→Option Bool) (k1:Int→Option (Int)) (Aa:Int):Option (Int) :=
  bif (decide (Aa<(Ab.length:Int))) then Qac (ix Ab Aa) λAd=>Qac (f5 Ad) λAc=>bif Ac then some (Aa) else k1 (w64 (Aa+1)) else some ((-1))
def Qa5 (fu:Nat)  (Aa:List Pair) (f5:Pair→Option Bool):Nat→Int→Option (Int)
  | 0=>λ_=>none
  | n+1=>Qca fu Aa f5 (Qa5 fu Aa f5 n)
def Qb5 (fu:Nat) (Aa:List Pair) (f5:Pair→Option Bool):Option (Int) :=
  Qa5 fu Aa f5 fu 0
def Qa4 (fu:Nat) (Ab:List Pair) (f5:Pair→Option Bool):Option (Bool) :=
  Qac (Qb5 fu Ab f5) λAa=>some (decide (Aa≥0))
def Qjq (fu:Nat) (p1:Pair):Option (Bool) :=
  Qac (Qay fu p1.fA 0 3) λx5=>bif (!x5) then some (true) else Qac (Qay fu p1.fB 0 3) λAa=>some (!Aa)
def Qau (fu:Nat) (Ab:List Typ) (f5:Typ→Option Bool):Option (Bool) :=
  Qac (Qbh fu Ab f5) λAa=>some (decide (Aa≥0))
def Qp9 (fu:Nat) (x1:Typ):Option (Bool) :=
  Qac (Qay fu x1.f4 0 999) λx5=>bif x5 then Qac (Qds fu x1.fW) λAa=>bif Aa then Qac (Qds fu x1.fH) λAd=>bif Ad then Qac (Qds fu x1.fD) λAf=>bif Af then Qac (Qay fu x1.fO 0 100000) λAe=>bif Ae then Qac (Qay fu x1.fQ 1 100000) λAb=>bif Ab then Qac (Qay fu x1.fL 0 100000) λAc=>some (Ac) else some (false) else some (false) else some (false) else some (false) else some (false) else some (false)
def Qjs (fu:Nat) (t1:Typ):Option (Bool) :=
  Qac (Qp9 fu t1) λx5=>some (!x5)
def Qqb (fu:Nat) (x1:Item):Option (Bool) :=
  Qac (Qay fu x1.f4 0 999) λx5=>bif x5 then Qac (Qds fu x1.fW) λAa=>bif Aa then Qac (Qds fu x1.fH) λAd=>bif Ad then Qac (Qds fu x1.fD) λAf=>bif Af then Qac (Qay fu x1.fQ 1 100000) λAe=>bif Ae then Qac (Qay fu x1.fM 0 3) λAb=>bif Ab then Qac (Qay fu x1.fF 1 6) λAc=>some (Ac) else some (false) else some (false) else some (false) else some (false) else some (false) else some (false)
def Qip (fu:Nat)  (r1:Request) (k3:Int→Int→Option (Bool)) (Ab:Int) (Aa:Int):Option (Bool) :=
  bif (decide (Aa<(r1.fV.length:Int))) then Qac (ix r1.fV Aa) λAc=>Qac (Qqb fu Ac) λAd=>bif (!Ad) then some (false) else k3 (w64 (Ab+Ac.fF)) (w64 (Aa+1)) else some (decide (Ab≤12))
def Qek (fu:Nat)  (r1:Request):Nat→Int→Int→Option (Bool)
  | 0=>λ_ _=>none
  | n+1=>Qip fu r1 (Qek fu r1 n)
def Qmx (fu:Nat) (r1:Request)  : Option (Bool) :=
  Qek fu r1 fu 0 0
def Qmb (fu:Nat) (r1:Request)  : Option (Bool) :=
  Qac (Qa4 fu r1.fR (λAa=>Qjq fu Aa)) λAb=>bif Ab then some (false) else Qac (Qay fu (r1.fG.length:Int) 1 5) λAd=>bif (!Ad) then some (false) else Qac (Qau fu r1.fG (λAe=>Qjs fu Ae)) λAf=>bif Af then some (false) else Qac (Qay fu r1.fT 0 999) λAc=>bif (!Ac) then some (false) else bif (decide ((r1.fV.length:Int)>8)) then some (false) else Qmx fu r1
def Qm3 (fu:Nat) (r1:Request):Option (Bool) :=
  Qac (Qay fu r1.fe 0 1) λAa=>bif (!Aa) then some (false) else Qac (Qel fu r1.fJ) λAb=>bif (!Ab) then some (false) else Qac (Qay fu r1.fU 1 4) λAc=>bif (!Ac) then some (false) else bif (decide ((r1.fR.length:Int)>16)) then some (false) else Qmb fu r1
def Qpu (fu:Nat) (q1:Typ) (x2:Typ):Option (Bool) :=
  some (q1.f4==x2.f4)
def Qph (fu:Nat) (q1:Item) (x2:Item):Option (Bool) :=
  some (q1.f4==x2.f4)
def Qcb (fu:Nat)  (Ab:List Item) (f5:Item→Option Bool) (k1:Int→Option (Int)) (Aa:Int):Option (Int) :=
  bif (decide (Aa<(Ab.length:Int))) then Qac (ix Ab Aa) λAd=>Qac (f5 Ad) λAc=>bif Ac then some (Aa) else k1 (w64 (Aa+1)) else some ((-1))
def Qa3 (fu:Nat)  (Aa:List Item) (f5:Item→Option Bool):Nat→Int→Option (Int)
  | 0=>λ_=>none
  | n+1=>Qcb fu Aa f5 (Qa3 fu Aa f5 n)
def Qby (fu:Nat) (Aa:List Item) (f5:Item→Option Bool):Option (Int) :=
  Qa3 fu Aa f5 fu 0
def Qa6 (fu:Nat) (Ab:List Item) (f5:Item→Option Bool):Option (Bool) :=
  Qac (Qby fu Ab f5) λAa=>some (decide (Aa≥0))
def Qlr (fu:Nat) (p1:Pair) (x2:Request):Option (Bool) :=
  bif (decide (p1.fA≥x2.fU)) then some (true) else some (decide (p1.fB≥x2.fU))
def Qof (fu:Nat) (k4:Int→Option (Bool)) (Aa:Int)  : Option (Bool) :=
  k4 (w64 (Aa+1))
def Qkl (fu:Nat)  (r1:Request) (k4:Int→Option (Bool)) (Aa:Int):Option (Bool) :=
  bif (decide (Aa<(r1.fV.length:Int))) then Qac (ix r1.fV Aa) λAb=>bif (decide (Ab.fM≥r1.fU)) then some (false) else Qac (sls r1.fV 0 Aa) λAf=>Qac (Qa6 fu Af (λAg=>Qph fu Ag Ab)) λAe=>bif Ae then some (false) else Qof fu k4 Aa else Qac (Qhf fu r1) λAd=>bif Ad.2 then Qac (Qa4 fu r1.fR (λAh=>Qlr fu Ah r1)) λAc=>some (!Ac) else some (false)
def Qdm (fu:Nat)  (r1:Request):Nat→Int→Option (Bool)
  | 0=>λ_=>none
  | n+1=>Qkl fu r1 (Qdm fu r1 n)
def Qld (fu:Nat)  (r1:Request) (k1:Int→Option (Bool)) (Aa:Int):Option (Bool) :=
  bif (decide (Aa<(r1.fG.length:Int))) then Qac (ix r1.fG Aa) λAe=>Qac (sls r1.fG 0 Aa) λAb=>Qac (Qau fu Ab (λAc=>Qpu fu Ac Ae)) λAd=>bif Ad then some (false) else k1 (w64 (Aa+1)) else Qdm fu r1 fu 0
def Qfc (fu:Nat)  (r1:Request):Nat→Int→Option (Bool)
  | 0=>λ_=>none
  | n+1=>Qld fu r1 (Qfc fu r1 n)
def Qo7 (fu:Nat) (r1:Request):Option (Bool) :=
  Qfc fu r1 fu 0
def Qcs (fu:Nat)  (Ab:List Pair) (v5:Pair) (k1:Int→Option (Int)) (Aa:Int):Option (Int) :=
  bif (decide (Aa<(Ab.length:Int))) then Qac (ix Ab Aa) λAc=>bif (decide (v5=Ac)) then some (Aa) else k1 (w64 (Aa+1)) else some ((-1))
def Qbg (fu:Nat)  (Aa:List Pair) (v5:Pair):Nat→Int→Option (Int)
  | 0=>λ_=>none
  | n+1=>Qcs fu Aa v5 (Qbg fu Aa v5 n)
def Qdd (fu:Nat) (Aa:List Pair) (v5:Pair):Option (Int) :=
  Qbg fu Aa v5 fu 0
def Qcy (fu:Nat) (Aa:List Pair) (v5:Pair):Option (Bool) :=
  Qac (Qdd fu Aa v5) λAb=>some (decide (Ab≥0))
def Qg7 (fu:Nat) (Aa:List Pair) (a5:Int) (b6:Int):Option (Bool) :=
  Qac (Qcy fu Aa (⟨a5,b6⟩:Pair)) λx7=>some (x7)
def Qkk (fu:Nat) (k3:Int→Option (Bool)) (Ac:List Pair) (Ae:Int) (Ab:Int) (k4:Int→Option (Bool)) (Aa:Int):Option (Bool) :=
  bif (decide (Aa<Ae)) then Qac (Qg7 fu Ac Ab Aa) λAd=>Qac (Qg7 fu Ac Aa Ab) λAf=>bif (!(Ad==Af)) then some (false) else k4 (w64 (Aa+1)) else k3 (w64 (Ab+1))
def Qe5 (fu:Nat) (k3:Int→Option (Bool)) (Aa:List Pair) (Ab:Int) (Ac:Int):Nat→Int→Option (Bool)
  | 0=>λ_=>none
  | n+1=>Qkk fu k3 Aa Ab Ac (Qe5 fu k3 Aa Ab Ac n)
def Qk9 (fu:Nat)  (Ac:List Pair) (Ab:Int) (k3:Int→Option (Bool)) (Aa:Int):Option (Bool) :=
  bif (decide (Aa<Ab)) then Qac (Qg7 fu Ac Aa Aa) λAd=>bif (!Ad) then some (false) else Qe5 fu k3 Ac Ab Aa fu 0 else some (true)
def Qfg (fu:Nat)  (Aa:List Pair) (Ab:Int):Nat→Int→Option (Bool)
  | 0=>λ_=>none
  | n+1=>Qk9 fu Aa Ab (Qfg fu Aa Ab n)
def Qow (fu:Nat) (Ab:List Pair) (Aa:Int):Option (Bool) :=
  Qac (Qay fu Aa 1 4) λx6=>bif (!x6) then some (false) else Qfg fu Ab Aa fu 0
def Qc8 (fu:Nat) (x1:List Int):Option (List Int):=Q13 x1
def Qq7 (fu:Nat) (x1:Item) (t2:Typ) (Ag:List Int) (Ae:List Int):Option (Bool) :=
  Qac (Qc8 fu Ag) λAa=>Qac (Qc8 fu Ae) λAb=>Qac (ix Aa 0) λAi=>Qac (ix Ab 0) λAd=>bif (decide (Ai≤Ad)) then Qac (ix Aa 1) λAh=>Qac (ix Ab 1) λAc=>bif (decide (Ah≤Ac)) then Qac (ix Aa 2) λAf=>Qac (ix Ab 2) λAj=>bif (decide (Af≤Aj)) then some (decide (x1.fQ≤t2.fQ)) else some (false) else some (false) else some (false)
def Qq0 (fu:Nat) (x1:Item) (t2:Typ):Option (Bool) :=
  Qq7 fu x1 t2 (([x1.fW,x1.fH,x1.fD]:List Int)) (([t2.fW,t2.fH,t2.fD]:List Int))
def Qoz (fu:Nat) (x1:Item) (x2:Typ):Option (Bool) :=
  Qac (Qq0 fu x1 x2) λx8=>some (!x8)
def Qos (fu:Nat) (t1:Typ) (x2:Pallet):Option (Bool) :=
  bif (decide (t1.fW>x2.fW)) then some (true) else bif (decide (t1.fD>x2.fD)) then some (true) else bif (decide (t1.fH>x2.fH)) then some (true) else some (decide ((w64 (t1.fO+t1.fQ))>x2.fQ))
def Qp3 (fu:Nat) (r1:Request):Option (Int) :=
  Qac (Qhf fu r1) λAf=>Qac (Qm3 fu r1) λAc=>bif (!Ac) then some (2) else Qac (Qo7 fu r1) λAg=>bif (!Ag) then some (3) else Qac (Qow fu r1.fR r1.fU) λAd=>bif (!Ad) then some (4) else Qac (Qa6 fu r1.fV (λAb=>Qoz fu Ab Af.1)) λAh=>bif Ah then some (5) else Qac (Qau fu r1.fG (λAa=>Qos fu Aa r1.fJ)) λAe=>bif Ae then some (6) else some (0)
def Qov (fu:Nat) (Ab:ByteArray):Option (Int) :=
  Qac (Qhx fu Ab) λx2=>bif (decide (x2.2≥0)) then some (1) else Qac (Qp3 fu x2.1) λAa=>some (Aa)
def Qf4 (fu:Nat) (r1:Request):Option (Bool) :=
  Qac (Qp3 fu r1) λAa=>some (Aa==0)
def Qcx (fu:Nat) (Ab:List Int):Option ((List Int)) :=
  Qac (Qfh 8 (([]:List Int)) Ab) λAa=>some (Aa)
def Qi8 (fu:Nat) (x1:List Int):Option (List Int):=Jf8 x1
def Qjv (fu:Nat) (Ab:List Int):Option ((List Int)) :=
  Qac (Qcx fu Ab) λx5=>Qac (Qc8 fu x5) λAa=>Qac (Qi8 fu Aa) λAc=>some (Ac)
def Qka (fu:Nat)  (r1:Request) (k1:List Int→Int→Option ((List Int))) (Ab:List Int) (Aa:Int):Option ((List Int)) :=
  bif (decide (Aa<(r1.fV.length:Int))) then Qac (ix r1.fV Aa) λAc=>Qac (Qfh 8 Ab (([Ac.fM]:List Int))) λAe=>k1 Ae (w64 (Aa+1)) else Qac (Qjv fu Ab) λAd=>some (Ad)
def Qgk (fu:Nat)  (r1:Request):Nat→List Int→Int→Option ((List Int))
  | 0=>λ_ _=>none
  | n+1=>Qka fu r1 (Qgk fu r1 n)
def Qop (fu:Nat) (r1:Request):Option ((List Int)) :=
  Qac (Qf4 fu r1) λAa=>bif (!Aa) then some (([]:List Int)) else Qgk fu r1 fu (([]:List Int)) 0
def Qp7 (fu:Nat) (Aa:List Pair) (a5:Int) (b6:Int):Option (Bool) :=
  Qac (Qg7 fu Aa a5 b6) λx7=>bif x7 then Qac (Qg7 fu Aa b6 a5) λAb=>some (Ab) else some (false)
def Qi7 (fu:Nat) (x1:Int) (x2:List Pair) (x8:Int):Option (Bool) :=
  Qac (Qp7 fu x2 x8 x1) λAa=>some (!Aa)
def Qd7 (fu:Nat)  (Ab:List Int) (f5:Int→Option Bool) (k1:Int→Option (Int)) (Aa:Int):Option (Int) :=
  bif (decide (Aa<(Ab.length:Int))) then Qac (ix Ab Aa) λAd=>Qac (f5 Ad) λAc=>bif Ac then some (Aa) else k1 (w64 (Aa+1)) else some ((-1))
def Qb6 (fu:Nat)  (Aa:List Int) (f5:Int→Option Bool):Nat→Int→Option (Int)
  | 0=>λ_=>none
  | n+1=>Qd7 fu Aa f5 (Qb6 fu Aa f5 n)
def Qc9 (fu:Nat) (Aa:List Int) (f5:Int→Option Bool):Option (Int) :=
  Qb6 fu Aa f5 fu 0
def Qda (fu:Nat) (Ab:List Int) (f5:Int→Option Bool):Option (Bool) :=
  Qac (Qc9 fu Ab f5) λAa=>some (decide (Aa≥0))
def Qnn (fu:Nat) (l1:List Int) (x5:List Pair) (Ac:Int):Option (Bool) :=
  Qac (Qda fu l1 (λAb=>Qi7 fu Ab x5 Ac)) λAa=>some (!Aa)
def Qdy (fu:Nat)  (Ab:List (List Int)) (f5:(List Int)→Option Bool) (k1:Int→Option (Int)) (Aa:Int):Option (Int) :=
  bif (decide (Aa<(Ab.length:Int))) then Qac (ix Ab Aa) λAd=>Qac (f5 Ad) λAc=>bif Ac then some (Aa) else k1 (w64 (Aa+1)) else some ((-1))
def Qbw (fu:Nat)  (Aa:List (List Int)) (f5:(List Int)→Option Bool):Nat→Int→Option (Int)
  | 0=>λ_=>none
  | n+1=>Qdy fu Aa f5 (Qbw fu Aa f5 n)
def Qc1 (fu:Nat) (Aa:List (List Int)) (f5:(List Int)→Option Bool):Option (Int) :=
  Qbw fu Aa f5 fu 0
def Qhw (fu:Nat) (k3:List (List Int)→Int→Option ((List (List Int)))) (Aa:Int) (Ab:List (List Int)):Option ((List (List Int))) :=
  k3 Ab (w64 (Aa+1))
def Qmq (fu:Nat)  (Ai:List Pair) (Ae:(List Int)) (k3:List (List Int)→Int→Option ((List (List Int)))) (Aa:List (List Int)) (Ab:Int):Option ((List (List Int))) :=
  bif (decide (Ab<(Ae.length:Int))) then Qac (ix Ae Ab) λAd=>Qac (Qay fu Ad 0 3) λAg=>bif (!Ag) then Qhw fu k3 Ab Aa else Qac (Qc1 fu Aa (λAk=>Qnn fu Ak Ai Ad)) λAc=>bif (decide (Ac<0)) then Qac (Qfh 24 Aa [([Ad]:List Int)]) λAj=>Qhw fu k3 Ab Aj else Qac (ix Aa Ac) λAh=>Qac (Qfh 8 Ah (([Ad]:List Int))) λAf=>Qac (ix Aa Ac) λAl=>Qhw fu k3 Ab (Qhs Aa Ac Af) else some (Aa)
def Qep (fu:Nat)  (Ab:List Pair) (Aa:(List Int)):Nat→List (List Int)→Int→Option ((List (List Int)))
  | 0=>λ_ _=>none
  | n+1=>Qmq fu Ab Aa (Qep fu Ab Aa n)
def Qqh (fu:Nat) (Ab:List Pair) (Ac:List Int):Option ((List (List Int))) :=
  Qac (Qjv fu Ac) λAa=>Qep fu Ab Aa fu (([]:List (List Int))) 0
def Qhl (fu:Nat) (r1:Request):Option ((List (List Int))) :=
  Qac (Qf4 fu r1) λAa=>bif (!Aa) then some (([]:List (List Int))) else Qac (Qop fu r1) λAc=>Qac (Qqh fu r1.fR Ac) λAb=>some (Ab)
def Qts (fu:Nat) (x1:Int) (y2:Int):Option (Int×Int) :=
  some (IntKind.wrap .u64 ((IntKind.wrap .u64 ((IntKind.wrap .u64 ((Int.fdiv x1 (2 ^ (min 32 (IntKind.bits .u64))))*(Int.fdiv y2 (2 ^ (min 32 (IntKind.bits .u64))))))+(Int.fdiv (IntKind.wrap .u64 ((IntKind.wrap .u64 ((Int.fdiv x1 (2 ^ (min 32 (IntKind.bits .u64))))*(IntKind.wrap .u64 (((BitVec.ofInt (IntKind.bits .u64) y2 &&& BitVec.ofInt (IntKind.bits .u64) 4294967295).toNat:Nat):Int))))+(Int.fdiv (IntKind.wrap .u64 ((IntKind.wrap .u64 (((BitVec.ofInt (IntKind.bits .u64) x1 &&& BitVec.ofInt (IntKind.bits .u64) 4294967295).toNat:Nat):Int))*(IntKind.wrap .u64 (((BitVec.ofInt (IntKind.bits .u64) y2 &&& BitVec.ofInt (IntKind.bits .u64) 4294967295).toNat:Nat):Int)))) (2 ^ (min 32 (IntKind.bits .u64)))))) (2 ^ (min 32 (IntKind.bits .u64))))))+(Int.fdiv (IntKind.wrap .u64 ((IntKind.wrap .u64 (((BitVec.ofInt (IntKind.bits .u64) (IntKind.wrap .u64 ((IntKind.wrap .u64 ((Int.fdiv x1 (2 ^ (min 32 (IntKind.bits .u64))))*(IntKind.wrap .u64 (((BitVec.ofInt (IntKind.bits .u64) y2 &&& BitVec.ofInt (IntKind.bits .u64) 4294967295).toNat:Nat):Int))))+(Int.fdiv (IntKind.wrap .u64 ((IntKind.wrap .u64 (((BitVec.ofInt (IntKind.bits .u64) x1 &&& BitVec.ofInt (IntKind.bits .u64) 4294967295).toNat:Nat):Int))*(IntKind.wrap .u64 (((BitVec.ofInt (IntKind.bits .u64) y2 &&& BitVec.ofInt (IntKind.bits .u64) 4294967295).toNat:Nat):Int)))) (2 ^ (min 32 (IntKind.bits .u64)))))) &&& BitVec.ofInt (IntKind.bits .u64) 4294967295).toNat:Nat):Int))+(IntKind.wrap .u64 ((IntKind.wrap .u64 (((BitVec.ofInt (IntKind.bits .u64) x1 &&& BitVec.ofInt (IntKind.bits .u64) 4294967295).toNat:Nat):Int))*(Int.fdiv y2 (2 ^ (min 32 (IntKind.bits .u64)))))))) (2 ^ (min 32 (IntKind.bits .u64))))),IntKind.wrap .u64 (x1*y2))
def Qua (fu:Nat) (x1:Int) (y2:Int):Option (Int×Int) :=
  Qac (Qts fu x1 y2) λx3=>some (x3.1,x3.2)
def Qmk (fu:Nat)   (k3:List Int→Int→Option ((List Int))) (Aa:List Int) (Ab:Int):Option ((List Int)) :=
  bif (decide (Ab<(Aa.length:Int))) then Qac (sls Aa Ab (Aa.length:Int)) λAd=>Qac (sls Aa 0 Ab) λAc=>k3 (cpd Aa Ab Ac) (w64 (Ab+(cpn Aa Ab Ac))) else some (Aa)
def Qga (fu:Nat)   : Nat→List Int→Int→Option ((List Int))
  | 0=>λ_ _=>none
  | n+1=>Qmk fu  (Qga fu  n)
def Qbs (fu:Nat) (x1:List Int) (x8:Int×Int)  : Option ((List Int)) :=
  Qac (mk 8 (0:Int) (w64 x8.2)) λAa=>Qga fu fu (cpd Aa 0 x1) (cpn Aa 0 x1)
def Qf8 (fu:Nat) (x1:List Int) (Aa:Int)  : Option ((List Int)) :=
  Qac (Qua fu (IntKind.wrap .u64 (x1.length:Int)) (IntKind.wrap .u64 Aa)) λx8=>bif (decide (x8.1>0)) then none else bif (decide (x8.2>9223372036854775807)) then none else Qbs fu x1 x8
def Qfr (fu:Nat) (x1:List Int) (Aa:Int):Option ((List Int)) :=
  bif (decide (Aa<0)) then none else Qf8 fu x1 Aa
def Qn3 (fu:Nat)  (r1:Request) (k1:List Int→Int→Option ((List Int))) (Ab:List Int) (Aa:Int):Option ((List Int)) :=
  bif (decide (Aa<(r1.fV.length:Int))) then Qac (ix r1.fV Aa) λAd=>Qac (Qfr fu (([Aa]:List Int)) Ad.fF) λAe=>Qac (Qfh 8 Ab Ae) λAc=>k1 Ac (w64 (Aa+1)) else some (Ab)
def Qhk (fu:Nat)  (r1:Request):Nat→List Int→Int→Option ((List Int))
  | 0=>λ_ _=>none
  | n+1=>Qn3 fu r1 (Qhk fu r1 n)
def Qne (fu:Nat) (r1:Request):Option ((List Int)) :=
  Qac (Qf4 fu r1) λAa=>bif (!Aa) then some (([]:List Int)) else Qhk fu r1 fu (([]:List Int)) 0
def Qfp (fu:Nat)  (Ab:List Int) (v5:Int) (k1:Int→Option (Int)) (Aa:Int):Option (Int) :=
  bif (decide (Aa<(Ab.length:Int))) then Qac (ix Ab Aa) λAc=>bif (v5==Ac) then some (Aa) else k1 (w64 (Aa+1)) else some ((-1))
def Qcu (fu:Nat)  (Aa:List Int) (v5:Int):Nat→Int→Option (Int)
  | 0=>λ_=>none
  | n+1=>Qfp fu Aa v5 (Qcu fu Aa v5 n)
def Qhq (fu:Nat) (Aa:List Int) (v5:Int):Option (Int) :=
  Qcu fu Aa v5 fu 0
def Qem (fu:Nat) (Aa:List Int) (v5:Int):Option (Bool) :=
  Qac (Qhq fu Aa v5) λx6=>some (decide (x6≥0))
def Qjk (fu:Nat) (k3:List Int→Int→Option ((List Int))) (Ab:Int) (Aa:List Int):Option ((List Int)) :=
  k3 Aa (w64 (Ab+1))
def Qk1 (fu:Nat)  (r1:Request) (Aj:Int) (Ad:(List (List Int))) (Ac:(List Int)) (k3:List Int→Int→Option ((List Int))) (Ab:List Int) (Aa:Int):Option ((List Int)) :=
  bif (decide (Aa<(Ac.length:Int))) then Qac (ix Ac Aa) λAi=>Qac (ix Ad Aj) λAh=>Qac (ix r1.fV Ai) λAg=>Qac (Qem fu Ah Ag.fM) λAf=>bif Af then Qac (Qfh 8 Ab (([Aa]:List Int))) λAe=>Qjk fu k3 Aa Ae else Qjk fu k3 Aa Ab else some (Ab)
def Qff (fu:Nat)  (r1:Request) (Ac:Int) (Ab:(List (List Int))) (Aa:(List Int)):Nat→List Int→Int→Option ((List Int))
  | 0=>λ_ _=>none
  | n+1=>Qk1 fu r1 Ac Ab Aa (Qff fu r1 Ac Ab Aa n)
def Qpd (fu:Nat) (r1:Request) (Ab:Int):Option ((List Int)) :=
  Qac (Qhl fu r1) λAa=>Qac (Qay fu Ab 0 (w64 ((Aa.length:Int) - 1))) λAd=>bif (!Ad) then some (([]:List Int)) else Qac (Qne fu r1) λAc=>Qff fu r1 Ab Aa Ac fu (([]:List Int)) 0
def Qpr (fu:Nat) (u1:Int) (x2:Int):Option (Bool) :=
  Qac (Qay fu u1 0 (w64 (x2 - 1))) λx5=>some (!x5)
def Qc7 (fu:Nat) (k3:List Int→Int→Int→Option ((List Int))) (Ac:Int) (Ab:List Int) (Aa:Int):Option ((List Int)) :=
  k3 Ab Aa (w64 (Ac+1))
def Qdz (fu:Nat)  (f5:Int→Option Bool) (k3:List Int→Int→Int→Option ((List Int))) (Aa:List Int) (Ab:Int) (Ac:Int):Option ((List Int)) :=
  bif (decide (Ac<(Aa.length:Int))) then Qac (ix Aa Ac) λAd=>Qac (f5 Ad) λAe=>bif (!Ae) then Qac (ix Aa Ab) λAh=>Qc7 fu k3 Ac (Qhs Aa Ab Ad) (w64 (Ab+1)) else Qc7 fu k3 Ac Aa Ab else Qac (sls Aa Ab (Aa.length:Int)) λAg=>Qac (sls (Q3c Aa Ab) 0 Ab) λAf=>some (Af)
def Qbi (fu:Nat)  (f5:Int→Option Bool):Nat→List Int→Int→Int→Option ((List Int))
  | 0=>λ_ _ _=>none
  | n+1=>Qdz fu f5 (Qbi fu f5 n)
def Qd0 (fu:Nat) (Ab:List Int) (f5:Int→Option Bool):Option ((List Int)) :=
  Qac (Qc9 fu Ab f5) λAa=>bif (Aa==((-1))) then some (Ab) else Qbi fu f5 fu Ab Aa (w64 (Aa+1))
def Qij (fu:Nat) (r1:Request) (Ac:List Int):Option ((List Int)) :=
  Qac (Qne fu r1) λAd=>Qac (Qcx fu Ac) λAa=>Qac (Qd0 fu Aa (λAe=>Qpr fu Ae (Ad.length:Int))) λAb=>some (Ab)
def Qjm (fu:Nat) (k3:List Item→Int→Option ((List Item))) (Aa:Int) (Ab:List Item):Option ((List Item)) :=
  k3 Ab (w64 (Aa+1))
def Qk3 (fu:Nat)  (r1:Request) (Ad:List Int) (Ae:(List Int)) (k3:List Item→Int→Option ((List Item))) (Ab:List Item) (Aa:Int):Option ((List Item)) :=
  bif (decide (Aa<(Ad.length:Int))) then Qac (ix Ad Aa) λAc=>Qac (Qay fu Ac 0 (w64 ((Ae.length:Int) - 1))) λAg=>bif Ag then Qac (ix Ae Ac) λAi=>Qac (ix r1.fV Ai) λAh=>Qac (Qfh 56 Ab (([Ah]:List Item))) λAf=>Qjm fu k3 Aa Af else Qjm fu k3 Aa Ab else some (Ab)
def Qfa (fu:Nat)  (r1:Request) (Aa:List Int) (Ab:(List Int)):Nat→List Item→Int→Option ((List Item))
  | 0=>λ_ _=>none
  | n+1=>Qk3 fu r1 Aa Ab (Qfa fu r1 Aa Ab n)
def Qih (fu:Nat) (r1:Request) (Aa:List Int):Option ((List Item)) :=
  Qac (Qne fu r1) λAb=>Qfa fu r1 Aa Ab fu (([]:List Item)) 0
def Qps (fu:Nat) (Aa:Int) (h2:Int) (d3:Int)  : Option (Int) :=
  some (w64 ((w64 (Aa*h2))*d3))
def Qn1 (fu:Nat) (Aa:Int) (h2:Int) (d3:Int):Option (Int) :=
  Qac (Qay fu Aa 0 2000) λAb=>bif (!Ab) then some (0) else Qac (Qay fu h2 0 2000) λAc=>bif (!Ac) then some (0) else Qac (Qay fu d3 0 2000) λAd=>bif (!Ad) then some (0) else Qps fu Aa h2 d3
def Qi2 (fu:Nat)  (Ac:(List Item)) (k1:Int→Int→Option (Int)) (Ad:Int) (Ab:Int):Option (Int) :=
  bif (decide (Ab<(Ac.length:Int))) then Qac (ix Ac Ab) λAa=>Qac (Qn1 fu Aa.fW Aa.fH Aa.fD) λAe=>k1 (w64 (Ad+Ae)) (w64 (Ab+1)) else some (Ad)
def Qfu (fu:Nat)  (Aa:(List Item)):Nat→Int→Int→Option (Int)
  | 0=>λ_ _=>none
  | n+1=>Qi2 fu Aa (Qfu fu Aa n)
def Qjb (fu:Nat) (r1:Request) (Aa:List Int):Option (Int) :=
  Qac (Qih fu r1 Aa) λAb=>Qfu fu Ab fu 0 0
def Ql7 (fu:Nat)  (Ab:(List Item)) (k1:Int→Int→Option (Int)) (Ac:Int) (Aa:Int):Option (Int) :=
  bif (decide (Aa<(Ab.length:Int))) then Qac (ix Ab Aa) λAd=>k1 (w64 (Ac+Ad.fQ)) (w64 (Aa+1)) else some (Ac)
def Qg1 (fu:Nat)  (Aa:(List Item)):Nat→Int→Int→Option (Int)
  | 0=>λ_ _=>none
  | n+1=>Ql7 fu Aa (Qg1 fu Aa n)
def Qoc (fu:Nat) (r1:Request) (Aa:List Int):Option (Int) :=
  Qac (Qih fu r1 Aa) λAb=>Qg1 fu Ab fu 0 0
def Qn7 (fu:Nat) (r1:Request) (Aa:List Int) (t9:Typ):Option (Bool) :=
  Qac (Qjb fu r1 Aa) λAb=>Qac (Qn1 fu t9.fW t9.fH t9.fD) λAd=>bif (decide (Ab≤Ad)) then Qac (Qoc fu r1 Aa) λAc=>some (decide (Ac≤t9.fQ)) else some (false)
def Qq2 (fu:Nat) (r1:Request) (Af:List Int) (u9:Int):Option (Bool) :=
  Qac (Qhf fu r1) λAc=>Qac (Qf4 fu r1) λAa=>bif Aa then Qac (Qcx fu Af) λAb=>Qac (Qfh 8 Ab (([u9]:List Int))) λAd=>Qac (Qn7 fu r1 Ad Ac.1) λAe=>some (Ae) else some (false)
def Qhb (fu:Nat) (k3:List (List Int)→Int→Option ((List (List Int)))) (Aa:Int) (Ab:List (List Int)):Option ((List (List Int))) :=
  k3 Ab (w64 (Aa+1))
def Qjz (fu:Nat)  (r1:Request) (Ad:(List Int)) (k3:List (List Int)→Int→Option ((List (List Int)))) (Aa:List (List Int)) (Ab:Int):Option ((List (List Int))) :=
  bif (decide (Ab<(Ad.length:Int))) then Qac (ix Ad Ab) λAc=>bif (decide ((w64 ((Aa.length:Int) - 1))≥0)) then Qac (ix Aa (w64 ((Aa.length:Int) - 1))) λAe=>Qac (Qq2 fu r1 Ae Ac) λAf=>bif Af then Qac (ix Aa (w64 ((Aa.length:Int) - 1))) λAj=>Qac (Qfh 8 Ae (([Ac]:List Int))) λAi=>Qac (ix Aa (w64 ((Aa.length:Int) - 1))) λAk=>Qhb fu k3 Ab (Qhs Aa (w64 ((Aa.length:Int) - 1)) Ai) else Qac (Qfh 24 Aa [([Ac]:List Int)]) λAh=>Qhb fu k3 Ab Ah else Qac (Qfh 24 Aa [([Ac]:List Int)]) λAg=>Qhb fu k3 Ab Ag else some (Aa)
def Qd5 (fu:Nat)  (r1:Request) (Aa:(List Int)):Nat→List (List Int)→Int→Option ((List (List Int)))
  | 0=>λ_ _=>none
  | n+1=>Qjz fu r1 Aa (Qd5 fu r1 Aa n)
def Qo8 (fu:Nat) (r1:Request) (Ab:List Int):Option ((List (List Int))) :=
  Qac (Qij fu r1 Ab) λAa=>Qd5 fu r1 Aa fu (([]:List (List Int))) 0
def Qmj (fu:Nat)  (n1:Int) (k1:List Int→Int→Option ((List Int))) (Ab:List Int) (Aa:Int):Option ((List Int)) :=
  bif (decide (Aa<n1)) then Qac (Qfh 8 Ab (([Aa]:List Int))) λAc=>k1 Ac (w64 (Aa+1)) else some (Ab)
def Qg2 (fu:Nat)  (n1:Int):Nat→List Int→Int→Option ((List Int))
  | 0=>λ_ _=>none
  | n+1=>Qmj fu n1 (Qg2 fu n1 n)
def Qqs (fu:Nat) (n1:Int):Option ((List Int)) :=
  Qg2 fu n1 fu (([]:List Int)) 0
def Qo3 (fu:Nat) (a1:Int) (b2:Int):Option (Int) :=
  bif (decide (a1<b2)) then some ((-1)) else bif (decide (a1>b2)) then some (1) else some (0)
def Qe7 (fu:Nat) (i1:Int) (j2:Int) (x3:List Int):Option (Int) :=
  Qac (ix x3 j2) λAc=>Qac (ix x3 i1) λAa=>Qac (Qo3 fu Ac Aa) λAb=>some (Ab)
def Qc5 (fu:Nat) (Ad:List Int→Int→Option ((List Int))) (Ab:List Int) (Aa:Int)  : Option ((List Int)) :=
  Qac (ix Ab (w64 (Aa - 1))) λAc=>Qac (ix Ab Aa) λAe=>Qac (ix Ab Aa) λAf=>Qac (ix (Qhs Ab Aa Ac) (w64 (Aa - 1))) λAg=>Ad (Qhs (Qhs Ab Aa Ac) (w64 (Aa - 1)) Ae) (w64 (Aa - 1))
def Qcv (fu:Nat) (k9:List Int→Int→Option ((List Int))) (a5:Int) (f7:Int→Int→Option Int) (Ac:Int) (Ad:List Int→Int→Option ((List Int))) (Aa:List Int) (Ab:Int):Option ((List Int)) :=
  bif (decide (Ab>a5)) then Qac (ix Aa Ab) λAg=>Qac (ix Aa (w64 (Ab - 1))) λAf=>Qac (f7 Ag Af) λAe=>bif (decide (Ae<0)) then Qc5 fu Ad Aa Ab else k9 Aa (w64 (Ac+1)) else k9 Aa (w64 (Ac+1))
def Qa7 (fu:Nat) (k9:List Int→Int→Option ((List Int))) (a5:Int) (f7:Int→Int→Option Int) (Aa:Int):Nat→List Int→Int→Option ((List Int))
  | 0=>λ_ _=>none
  | n+1=>Qcv fu k9 a5 f7 Aa (Qa7 fu k9 a5 f7 Aa n)
def Qb1 (fu:Nat)  (a5:Int) (b6:Int) (f7:Int→Int→Option Int) (k9:List Int→Int→Option ((List Int))) (Ab:List Int) (Aa:Int):Option ((List Int)) :=
  bif (decide (Aa<b6)) then Qa7 fu k9 a5 f7 Aa fu Ab Aa else some (Ab)
def Qap (fu:Nat)  (a5:Int) (b6:Int) (f7:Int→Int→Option Int):Nat→List Int→Int→Option ((List Int))
  | 0=>λ_ _=>none
  | n+1=>Qb1 fu a5 b6 f7 (Qap fu a5 b6 f7 n)
def Qbz (fu:Nat) (Aa:List Int) (a5:Int) (b6:Int) (f7:Int→Int→Option Int):Option ((List Int)) :=
  Qap fu a5 b6 f7 fu Aa (w64 (a5+1))
def Qg6 (fu:Nat) (x0:List Int) (x1:Int) (x2:Int) (x3:Int) (x4:Int→Int→Option Int):Option ((List Int)):=none
def Qeo (fu:Nat) (k6:List Int→Int→Option ((List Int))) (Aa:Int) (Ab:List Int):Option ((List Int)) :=
  k6 Ab (w64 (Aa*2))
def Qjr (fu:Nat) (k6:List Int→Int→Option ((List Int))) (n5:Int) (f6:Int→Int→Option Int) (Aa:Int) (k7:List Int→Int→Int→Option ((List Int))) (Ad:List Int) (Ab:Int) (Ac:Int):Option ((List Int)) :=
  bif (decide (Ac≤n5)) then Qac (Qg6 fu Ad Ab (w64 (Ab+Aa)) Ac f6) λAe=>k7 Ae Ac (w64 (Ac+(w64 (2*Aa)))) else bif (decide ((w64 (Ab+Aa))<n5)) then Qac (Qg6 fu Ad Ab (w64 (Ab+Aa)) n5 f6) λAf=>Qeo fu k6 Aa Af else Qeo fu k6 Aa Ad
def Qen (fu:Nat) (k6:List Int→Int→Option ((List Int))) (n5:Int) (f6:Int→Int→Option Int) (Aa:Int):Nat→List Int→Int→Int→Option ((List Int))
  | 0=>λ_ _ _=>none
  | n+1=>Qjr fu k6 n5 f6 Aa (Qen fu k6 n5 f6 Aa n)
def Qgj (fu:Nat)  (n5:Int) (f6:Int→Int→Option Int) (k6:List Int→Int→Option ((List Int))) (Ab:List Int) (Aa:Int):Option ((List Int)) :=
  bif (decide (Aa<n5)) then Qen fu k6 n5 f6 Aa fu Ab 0 (w64 (2*Aa)) else some (Ab)
def Qb8 (fu:Nat)  (n5:Int) (f6:Int→Int→Option Int):Nat→List Int→Int→Option ((List Int))
  | 0=>λ_ _=>none
  | n+1=>Qgj fu n5 f6 (Qb8 fu n5 f6 n)
def Qgm (fu:Nat)  (n5:Int) (f6:Int→Int→Option Int) (k1:List Int→Int→Int→Option ((List Int))) (Ab:List Int) (Ac:Int) (Aa:Int):Option ((List Int)) :=
  bif (decide (Aa≤n5)) then Qac (Qbz fu Ab Ac Aa f6) λAd=>k1 Ad Aa (w64 (Aa+20)) else Qac (Qbz fu Ab Ac n5 f6) λAe=>Qb8 fu n5 f6 fu Ae 20
def Qdb (fu:Nat)  (n5:Int) (f6:Int→Int→Option Int):Nat→List Int→Int→Int→Option ((List Int))
  | 0=>λ_ _ _=>none
  | n+1=>Qgm fu n5 f6 (Qdb fu n5 f6 n)
def Qf9 (fu:Nat) (Aa:List Int) (n5:Int) (f6:Int→Int→Option Int):Option ((List Int)) :=
  Qdb fu n5 f6 fu Aa 0 20
def Qef (fu:Nat) (x1:List Int) (f5:Int→Int→Option Int):Option ((List Int)) :=
  Qac (Qf9 fu x1 (x1.length:Int) f5) λAa=>some (Aa)
def Qgy (fu:Nat) (Aa:List Int):Option ((List Int)) :=
  Qac (Qqs fu (Aa.length:Int)) λx8=>Qac (Qef fu x8 (λAc Ab=>Qe7 fu Ac Ab Aa)) λAd=>some (Ad)
def Qjg (fu:Nat) (l1:List Int) (x5:Request) (Aa:Int):Option (Bool) :=
  Qac (Qq2 fu x5 l1 Aa) λAb=>some (Ab)
def Qid (fu:Nat) (k4:List (List Int)→Int→Option ((List (List Int)))) (Aa:Int) (Ab:List (List Int)):Option ((List (List Int))) :=
  k4 Ab (w64 (Aa+1))
def Qil (fu:Nat)  (r1:Request) (Aj:(List Int)) (Ae:(List Int)) (k4:List (List Int)→Int→Option ((List (List Int)))) (Aa:List (List Int)) (Ab:Int):Option ((List (List Int))) :=
  bif (decide (Ab<(Ae.length:Int))) then Qac (ix Ae Ab) λAf=>Qac (ix Aj Af) λAd=>Qac (Qc1 fu Aa (λAi=>Qjg fu Ai r1 Ad)) λAc=>bif (decide (Ac<0)) then Qac (Qfh 24 Aa [([Ad]:List Int)]) λAk=>Qid fu k4 Ab Ak else Qac (ix Aa Ac) λAg=>Qac (Qfh 8 Ag (([Ad]:List Int))) λAh=>Qac (ix Aa Ac) λAl=>Qid fu k4 Ab (Qhs Aa Ac Ah) else some (Aa)
def Qcr (fu:Nat)  (r1:Request) (Aa:(List Int)) (Ab:(List Int)):Nat→List (List Int)→Int→Option ((List (List Int)))
  | 0=>λ_ _=>none
  | n+1=>Qil fu r1 Aa Ab (Qcr fu r1 Aa Ab n)
def Qiq (fu:Nat)  (r1:Request) (Ab:(List Int)) (k1:List Int→Int→Option ((List (List Int)))) (Ac:List Int) (Aa:Int):Option ((List (List Int))) :=
  bif (decide (Aa<(Ab.length:Int))) then Qac (ix Ab Aa) λAd=>Qac (Qjb fu r1 (([Ad]:List Int))) λAg=>Qac (Qfh 8 Ac (([Ag]:List Int))) λAe=>k1 Ae (w64 (Aa+1)) else Qac (Qgy fu Ac) λAf=>Qcr fu r1 Ab Af fu (([]:List (List Int))) 0
def Qfl (fu:Nat)  (r1:Request) (Aa:(List Int)):Nat→List Int→Int→Option ((List (List Int)))
  | 0=>λ_ _=>none
  | n+1=>Qiq fu r1 Aa (Qfl fu r1 Aa n)
def Qnd (fu:Nat) (r1:Request) (Aa:List Int):Option ((List (List Int))) :=
  Qac (Qij fu r1 Aa) λAb=>Qfl fu r1 Ab fu (([]:List Int)) 0
def Qom (fu:Nat) (r1:Request) (Aa:List Int):Option ((List (List Int))) :=
  bif (r1.fe==1) then Qac (Qo8 fu r1 Aa) λAb=>some (Ab) else Qac (Qnd fu r1 Aa) λAc=>some (Ac)
def Qrc (fu:Nat) (x1:Item) (x2:Typ):Option (Bool) :=
  Qac (Qq0 fu x1 x2) λx8=>some (!x8)
def Qp8 (fu:Nat) (r1:Request) (Aa:List Int) (t9:Typ)  : Option (Bool) :=
  Qac (Qih fu r1 Aa) λAc=>Qac (Qa6 fu Ac (λAe=>Qrc fu Ae t9)) λAd=>bif (!Ad) then Qac (Qn7 fu r1 Aa t9) λAb=>some (Ab) else some (false)
def Qre (fu:Nat) (r1:Request) (Aa:List Int) (t9:Typ):Option (Bool) :=
  Qac (Qf4 fu r1) λAb=>bif (!Ab) then some (false) else Qac (Qij fu r1 Aa) λAc=>bif ((Ac.length:Int) != (Aa.length:Int)) then some (false) else Qp8 fu r1 Aa t9
def Qdv (fu:Nat) (k3:Typ→Bool→Int→Option (Typ×Bool)) (Aa:Int) (Ac:Typ) (Ab:Bool):Option (Typ×Bool) :=
  k3 Ac Ab (w64 (Aa+1))
def Qix (fu:Nat)  (r1:Request) (Af:List Int) (k3:Typ→Bool→Int→Option (Typ×Bool)) (Ab:Typ) (Ad:Bool) (Aa:Int):Option (Typ×Bool) :=
  bif (decide (Aa<(r1.fG.length:Int))) then Qac (ix r1.fG Aa) λAc=>Qac (Qre fu r1 Af Ac) λAe=>bif (!Ae) then Qdv fu k3 Aa Ab Ad else bif (!Ad) then Qdv fu k3 Aa Ac true else bif (decide (Ac.fL<Ab.fL)) then Qdv fu k3 Aa Ac true else bif (Ac.fL==Ab.fL) then bif (decide (Ac.f4<Ab.f4)) then Qdv fu k3 Aa Ac true else Qdv fu k3 Aa Ab Ad else Qdv fu k3 Aa Ab Ad else some (Ab,Ad)
def Qej (fu:Nat)  (r1:Request) (Aa:List Int):Nat→Typ→Bool→Int→Option (Typ×Bool)
  | 0=>λ_ _ _=>none
  | n+1=>Qix fu r1 Aa (Qej fu r1 Aa n)
def Qng (fu:Nat) (r1:Request) (Aa:List Int):Option (Typ×Bool) :=
  Qej fu r1 Aa fu (⟨0,0,0,0,0,0,0⟩:Typ) false 0
def Qib (fu:Nat) (k3:List Carton→Int→Option ((List Carton))) (r1:Request) (Ab:Int) (Ad:(List (List Int))) (k4:List Carton→Int→Option ((List Carton))) (Ac:List Carton) (Aa:Int):Option ((List Carton)) :=
  bif (decide (Aa<(Ad.length:Int))) then Qac (ix Ad Aa) λAe=>Qac (Qng fu r1 Ae) λAf=>Qac (Qc8 fu Ae) λAh=>Qac (Qfh 40 Ac [(⟨Af.1.f4,Ab,Ah⟩:Carton)]) λAg=>k4 Ag (w64 (Aa+1)) else k3 Ac (w64 (Ab+1))
def Qe0 (fu:Nat) (k3:List Carton→Int→Option ((List Carton))) (r1:Request) (Aa:Int) (Ab:(List (List Int))):Nat→List Carton→Int→Option ((List Carton))
  | 0=>λ_ _=>none
  | n+1=>Qib fu k3 r1 Aa Ab (Qe0 fu k3 r1 Aa Ab n)
def Qh3 (fu:Nat)  (r1:Request) (Ac:(List (List Int))) (k3:List Carton→Int→Option ((List Carton))) (Ab:List Carton) (Aa:Int):Option ((List Carton)) :=
  bif (decide (Aa<(Ac.length:Int))) then Qac (Qpd fu r1 Aa) λAe=>Qac (Qom fu r1 Ae) λAd=>Qe0 fu k3 r1 Aa Ad fu Ab 0 else some (Ab)
def Qct (fu:Nat)  (r1:Request) (Aa:(List (List Int))):Nat→List Carton→Int→Option ((List Carton))
  | 0=>λ_ _=>none
  | n+1=>Qh3 fu r1 Aa (Qct fu r1 Aa n)
def Qlt (fu:Nat) (r1:Request):Option ((List Carton)) :=
  Qac (Qhl fu r1) λAa=>Qct fu r1 Aa fu (([]:List Carton)) 0
def Qql (fu:Nat) (r1:Request) (x5:Carton) (Ab:Typ×Bool)  : Option (Int) :=
  Qac (Qoc fu r1 x5.f8) λAa=>some (w64 (Ab.1.fO+Aa))
def Qrj (fu:Nat) (r1:Request) (x5:Carton):Option (Int) :=
  Qac (Qhi fu r1 x5.fc) λAa=>bif (!Aa.2) then some (0) else Qac (Qf4 fu r1) λAb=>bif (!Ab) then some (0) else Qql fu r1 x5 Aa
def Qqu (fu:Nat) (r1:Request) (x5:Carton) (Aa:Typ×Bool)  : Option (Box) :=
  Qac (Qrj fu r1 x5) λAb=>some (⟨Aa.1.fW,Aa.1.fD,Aa.1.fH,Ab⟩:Box)
def Qrh (fu:Nat) (r1:Request) (x5:Carton):Option (Box) :=
  Qac (Qhi fu r1 x5.fc) λAa=>bif (!Aa.2) then some (⟨0,0,0,0⟩:Box) else Qac (Qf4 fu r1) λAb=>bif (!Ab) then some (⟨0,0,0,0⟩:Box) else Qqu fu r1 x5 Aa
def Qln (fu:Nat) (b1:Box) (x2:Pallet):Option (Bool) :=
  Qac (Qay fu b1.fW 1 x2.fW) λx8=>bif (!x8) then some (true) else Qac (Qay fu b1.fD 1 x2.fD) λAb=>bif (!Ab) then some (true) else Qac (Qay fu b1.fH 1 x2.fH) λAa=>bif (!Aa) then some (true) else Qac (Qay fu b1.fQ 1 x2.fQ) λAc=>some (!Ac)
def Qck (fu:Nat)  (Ab:List Box) (f5:Box→Option Bool) (k1:Int→Option (Int)) (Aa:Int):Option (Int) :=
  bif (decide (Aa<(Ab.length:Int))) then Qac (ix Ab Aa) λAd=>Qac (f5 Ad) λAc=>bif Ac then some (Aa) else k1 (w64 (Aa+1)) else some ((-1))
def Qaw (fu:Nat)  (Aa:List Box) (f5:Box→Option Bool):Nat→Int→Option (Int)
  | 0=>λ_=>none
  | n+1=>Qck fu Aa f5 (Qaw fu Aa f5 n)
def Qc2 (fu:Nat) (Aa:List Box) (f5:Box→Option Bool):Option (Int) :=
  Qaw fu Aa f5 fu 0
def Qbx (fu:Nat) (Ab:List Box) (f5:Box→Option Bool):Option (Bool) :=
  Qac (Qc2 fu Ab f5) λAa=>some (decide (Aa≥0))
def Qlx (fu:Nat) (p1:Pallet) (Ad:List Box):Option (Bool) :=
  Qac (Qel fu p1) λAc=>bif Ac then Qac (Qbx fu Ad (λAa=>Qln fu Aa p1)) λAb=>some (!Ab) else some (false)
def Qoa (fu:Nat) (k8:List Shelf→Int→Option ((List Shelf))) (Aa:Int) (Ab:List Shelf):Option ((List Shelf)) :=
  k8 Ab (w64 (Aa+1))
def Qdf (fu:Nat) (k8:List Shelf→Int→Option ((List Shelf))) (Ai:Int) (Ak:Int) (Ac:Box) (Ag:List Shelf) (Ad:Int):Option ((List Shelf)) :=
  Qac (ix Ag Ad) λAb=>Qac (Qfh 8 Ab.f0 (([Ak]:List Int))) λAe=>Qac (some ((⟨(⟨Ae,Ab.fW,Ab.fD,Ab.fH,Ab.fQ⟩:Shelf).f0,w64 (((⟨Ae,Ab.fW,Ab.fD,Ab.fH,Ab.fQ⟩:Shelf).fW)+Ac.fW),(⟨Ae,Ab.fW,Ab.fD,Ab.fH,Ab.fQ⟩:Shelf).fD,(⟨Ae,Ab.fW,Ab.fD,Ab.fH,Ab.fQ⟩:Shelf).fH,(⟨Ae,Ab.fW,Ab.fD,Ab.fH,Ab.fQ⟩:Shelf).fQ⟩:Shelf))) λAa=>Qac (some (Qhs (Qhs Ag Ad (⟨Ae,Ab.fW,Ab.fD,Ab.fH,Ab.fQ⟩:Shelf)) Ad Aa)) λAh=>Qac (some ((⟨(⟨Aa.f0,Aa.fW,if Ac.fD>Aa.fD then Ac.fD else Aa.fD,Aa.fH,Aa.fQ⟩:Shelf).f0,(⟨Aa.f0,Aa.fW,if Ac.fD>Aa.fD then Ac.fD else Aa.fD,Aa.fH,Aa.fQ⟩:Shelf).fW,(⟨Aa.f0,Aa.fW,if Ac.fD>Aa.fD then Ac.fD else Aa.fD,Aa.fH,Aa.fQ⟩:Shelf).fD,if Ac.fH>((⟨Aa.f0,Aa.fW,if Ac.fD>Aa.fD then Ac.fD else Aa.fD,Aa.fH,Aa.fQ⟩:Shelf).fH) then Ac.fH else (⟨Aa.f0,Aa.fW,if Ac.fD>Aa.fD then Ac.fD else Aa.fD,Aa.fH,Aa.fQ⟩:Shelf).fH,(⟨Aa.f0,Aa.fW,if Ac.fD>Aa.fD then Ac.fD else Aa.fD,Aa.fH,Aa.fQ⟩:Shelf).fQ⟩:Shelf))) λAf=>Qac (some (Qhs (Qhs Ah Ad (⟨Aa.f0,Aa.fW,if Ac.fD>Aa.fD then Ac.fD else Aa.fD,Aa.fH,Aa.fQ⟩:Shelf)) Ad Af)) λAj=>Qoa fu k8 Ai (Qhs Aj Ad (⟨Af.f0,Af.fW,Af.fD,Af.fH,w64 (Af.fQ+Ac.fQ)⟩:Shelf))
def Qj3 (fu:Nat)  (p1:Pallet) (Ag:List Box) (Af:(List Int)) (k8:List Shelf→Int→Option ((List Shelf))) (Aa:List Shelf) (Ab:Int):Option ((List Shelf)) :=
  bif (decide (Ab<(Af.length:Int))) then Qac (ix Af Ab) λAd=>Qac (ix Ag Ad) λAc=>bif (decide ((w64 ((Aa.length:Int) - 1))<0)) then Qac (Qfh 56 Aa [(⟨[],0,0,0,0⟩:Shelf)]) λAj=>Qdf fu k8 Ab Ad Ac Aj (w64 ((w64 ((Aa.length:Int) - 1))+1)) else Qac (ix Aa (w64 ((Aa.length:Int) - 1))) λAe=>bif (decide ((w64 (Ae.fW+Ac.fW))>p1.fW)) then Qac (Qfh 56 Aa [(⟨[],0,0,0,0⟩:Shelf)]) λAi=>Qdf fu k8 Ab Ad Ac Ai (w64 ((w64 ((Aa.length:Int) - 1))+1)) else Qac (ix Aa (w64 ((Aa.length:Int) - 1))) λAk=>bif (decide ((w64 (Ae.fQ+Ac.fQ))>p1.fQ)) then Qac (Qfh 56 Aa [(⟨[],0,0,0,0⟩:Shelf)]) λAh=>Qdf fu k8 Ab Ad Ac Ah (w64 ((w64 ((Aa.length:Int) - 1))+1)) else Qdf fu k8 Ab Ad Ac Aa (w64 ((Aa.length:Int) - 1)) else some (Aa)
def Qb4 (fu:Nat)  (p1:Pallet) (Ab:List Box) (Aa:(List Int)):Nat→List Shelf→Int→Option ((List Shelf))
  | 0=>λ_ _=>none
  | n+1=>Qj3 fu p1 Ab Aa (Qb4 fu p1 Ab Aa n)
def Qkw (fu:Nat)  (p1:Pallet) (Ab:List Box) (k1:List Int→Int→Option ((List Shelf))) (Ac:List Int) (Aa:Int):Option ((List Shelf)) :=
  bif (decide (Aa<(Ab.length:Int))) then Qac (ix Ab Aa) λAe=>Qac (Qfh 8 Ac (([Ae.fD]:List Int))) λAd=>k1 Ad (w64 (Aa+1)) else Qac (Qgy fu Ac) λAf=>Qb4 fu p1 Ab Af fu (([]:List Shelf)) 0
def Qgf (fu:Nat)  (p1:Pallet) (Aa:List Box):Nat→List Int→Int→Option ((List Shelf))
  | 0=>λ_ _=>none
  | n+1=>Qkw fu p1 Aa (Qgf fu p1 Aa n)
def Qpa (fu:Nat) (p1:Pallet) (Aa:List Box):Option ((List Shelf)) :=
  Qac (Qlx fu p1 Aa) λAb=>bif (!Ab) then some (([]:List Shelf)) else Qgf fu p1 Aa fu (([]:List Int)) 0
def Qmw (fu:Nat) (Aa:Shelf) (x5:Pallet):Option (Bool) :=
  Qac (Qay fu Aa.fD 1 x5.fD) λAc=>bif (!Ac) then some (true) else Qac (Qay fu Aa.fH 1 x5.fH) λAb=>bif (!Ab) then some (true) else Qac (Qay fu Aa.fQ 1 x5.fQ) λAd=>some (!Ad)
def Qb0 (fu:Nat)  (Ab:List Shelf) (f5:Shelf→Option Bool) (k1:Int→Option (Int)) (Aa:Int):Option (Int) :=
  bif (decide (Aa<(Ab.length:Int))) then Qac (ix Ab Aa) λAd=>Qac (f5 Ad) λAc=>bif Ac then some (Aa) else k1 (w64 (Aa+1)) else some ((-1))
def Qas (fu:Nat)  (Aa:List Shelf) (f5:Shelf→Option Bool):Nat→Int→Option (Int)
  | 0=>λ_=>none
  | n+1=>Qb0 fu Aa f5 (Qas fu Aa f5 n)
def Qcl (fu:Nat) (Aa:List Shelf) (f5:Shelf→Option Bool):Option (Int) :=
  Qas fu Aa f5 fu 0
def Qbl (fu:Nat) (Ab:List Shelf) (f5:Shelf→Option Bool):Option (Bool) :=
  Qac (Qcl fu Ab f5) λAa=>some (decide (Aa≥0))
def Qlu (fu:Nat) (p1:Pallet) (Ad:List Shelf):Option (Bool) :=
  Qac (Qel fu p1) λAc=>bif Ac then Qac (Qbl fu Ad (λAa=>Qmw fu Aa p1)) λAb=>some (!Ab) else some (false)
def Qmp (fu:Nat) (k7:List Layer→Int→Option ((List Layer))) (Ab:Int) (Aa:List Layer):Option ((List Layer)) :=
  k7 Aa (w64 (Ab+1))
def Qc6 (fu:Nat) (k7:List Layer→Int→Option ((List Layer))) (Af:Int) (Ac:Shelf) (Ag:List Layer) (Ae:Int):Option ((List Layer)) :=
  Qac (ix Ag Ae) λAb=>Qac (Qfh 8 Ab.fP (([Af]:List Int))) λAd=>Qac (some ((⟨(⟨Ad,Ab.fD,Ab.fH,Ab.fQ⟩:Layer).fP,w64 (((⟨Ad,Ab.fD,Ab.fH,Ab.fQ⟩:Layer).fD)+Ac.fD),(⟨Ad,Ab.fD,Ab.fH,Ab.fQ⟩:Layer).fH,(⟨Ad,Ab.fD,Ab.fH,Ab.fQ⟩:Layer).fQ⟩:Layer))) λAa=>Qac (some (Qhs (Qhs Ag Ae (⟨Ad,Ab.fD,Ab.fH,Ab.fQ⟩:Layer)) Ae Aa)) λAj=>Qac (some ((⟨(⟨Aa.fP,Aa.fD,if Ac.fH>Aa.fH then Ac.fH else Aa.fH,Aa.fQ⟩:Layer).fP,(⟨Aa.fP,Aa.fD,if Ac.fH>Aa.fH then Ac.fH else Aa.fH,Aa.fQ⟩:Layer).fD,(⟨Aa.fP,Aa.fD,if Ac.fH>Aa.fH then Ac.fH else Aa.fH,Aa.fQ⟩:Layer).fH,w64 (((⟨Aa.fP,Aa.fD,if Ac.fH>Aa.fH then Ac.fH else Aa.fH,Aa.fQ⟩:Layer).fQ)+Ac.fQ)⟩:Layer))) λAi=>Qac (some (Qhs (Qhs Aj Ae (⟨Aa.fP,Aa.fD,if Ac.fH>Aa.fH then Ac.fH else Aa.fH,Aa.fQ⟩:Layer)) Ae Ai)) λAh=>Qmp fu k7 Af Ah
def Qiu (fu:Nat)  (p1:Pallet) (Ae:List Shelf) (k7:List Layer→Int→Option ((List Layer))) (Aa:List Layer) (Ac:Int):Option ((List Layer)) :=
  bif (decide (Ac<(Ae.length:Int))) then Qac (ix Ae Ac) λAb=>bif (decide ((w64 ((Aa.length:Int) - 1))<0)) then Qac (Qfh 48 Aa [(⟨[],0,0,0⟩:Layer)]) λAf=>Qc6 fu k7 Ac Ab Af (w64 ((w64 ((Aa.length:Int) - 1))+1)) else Qac (ix Aa (w64 ((Aa.length:Int) - 1))) λAd=>bif (decide ((w64 (Ad.fD+Ab.fD))>p1.fD)) then Qac (Qfh 48 Aa [(⟨[],0,0,0⟩:Layer)]) λAg=>Qc6 fu k7 Ac Ab Ag (w64 ((w64 ((Aa.length:Int) - 1))+1)) else Qac (ix Aa (w64 ((Aa.length:Int) - 1))) λAi=>bif (decide ((w64 (Ad.fQ+Ab.fQ))>p1.fQ)) then Qac (Qfh 48 Aa [(⟨[],0,0,0⟩:Layer)]) λAh=>Qc6 fu k7 Ac Ab Ah (w64 ((w64 ((Aa.length:Int) - 1))+1)) else Qc6 fu k7 Ac Ab Aa (w64 ((Aa.length:Int) - 1)) else some (Aa)
def Qb3 (fu:Nat)  (p1:Pallet) (Aa:List Shelf):Nat→List Layer→Int→Option ((List Layer))
  | 0=>λ_ _=>none
  | n+1=>Qiu fu p1 Aa (Qb3 fu p1 Aa n)
def Qm7 (fu:Nat) (p1:Pallet) (Aa:List Shelf):Option ((List Layer)) :=
  Qac (Qlu fu p1 Aa) λAb=>bif (!Ab) then some (([]:List Layer)) else Qb3 fu p1 Aa fu (([]:List Layer)) 0
def Qoj (fu:Nat) (x1:Layer) (x5:Pallet):Option (Bool) :=
  Qac (Qay fu x1.fD 1 x5.fD) λAb=>bif (!Ab) then some (true) else Qac (Qay fu x1.fH 1 x5.fH) λAa=>bif (!Aa) then some (true) else Qac (Qay fu x1.fQ 1 x5.fQ) λAc=>some (!Ac)
def Qb2 (fu:Nat)  (Ab:List Layer) (f5:Layer→Option Bool) (k1:Int→Option (Int)) (Aa:Int):Option (Int) :=
  bif (decide (Aa<(Ab.length:Int))) then Qac (ix Ab Aa) λAd=>Qac (f5 Ad) λAc=>bif Ac then some (Aa) else k1 (w64 (Aa+1)) else some ((-1))
def Qar (fu:Nat)  (Aa:List Layer) (f5:Layer→Option Bool):Nat→Int→Option (Int)
  | 0=>λ_=>none
  | n+1=>Qb2 fu Aa f5 (Qar fu Aa f5 n)
def Qcm (fu:Nat) (Aa:List Layer) (f5:Layer→Option Bool):Option (Int) :=
  Qar fu Aa f5 fu 0
def Qbj (fu:Nat) (Ab:List Layer) (f5:Layer→Option Bool):Option (Bool) :=
  Qac (Qcm fu Ab f5) λAa=>some (decide (Aa≥0))
def Qm4 (fu:Nat) (p1:Pallet) (Ad:List Layer):Option (Bool) :=
  Qac (Qel fu p1) λAc=>bif Ac then Qac (Qbj fu Ad (λAa=>Qoj fu Aa p1)) λAb=>some (!Ab) else some (false)
def Qn2 (fu:Nat) (k7:List Load→Int→Option ((List Load))) (Aa:Int) (Ab:List Load):Option ((List Load)) :=
  k7 Ab (w64 (Aa+1))
def Qdl (fu:Nat) (k7:List Load→Int→Option ((List Load))) (Ag:Int) (Af:Layer) (Ae:List Load) (Ab:Int):Option ((List Load)) :=
  Qac (ix Ae Ab) λAa=>Qac (Qfh 8 Aa.fK (([Ag]:List Int))) λAd=>Qac (some ((⟨(⟨Ad,Aa.fH,Aa.fQ⟩:Load).fK,w64 (((⟨Ad,Aa.fH,Aa.fQ⟩:Load).fH)+Af.fH),(⟨Ad,Aa.fH,Aa.fQ⟩:Load).fQ⟩:Load))) λAc=>Qac (some (Qhs (Qhs Ae Ab (⟨Ad,Aa.fH,Aa.fQ⟩:Load)) Ab Ac)) λAh=>Qn2 fu k7 Ag (Qhs Ah Ab (⟨Ac.fK,Ac.fH,w64 (Ac.fQ+Af.fQ)⟩:Load))
def Qla (fu:Nat)  (p1:Pallet) (Ae:List Layer) (k7:List Load→Int→Option ((List Load))) (Aa:List Load) (Ac:Int):Option ((List Load)) :=
  bif (decide (Ac<(Ae.length:Int))) then Qac (ix Ae Ac) λAb=>bif (decide ((w64 ((Aa.length:Int) - 1))<0)) then Qac (Qfh 40 Aa [(⟨[],0,0⟩:Load)]) λAg=>Qdl fu k7 Ac Ab Ag (w64 ((w64 ((Aa.length:Int) - 1))+1)) else Qac (ix Aa (w64 ((Aa.length:Int) - 1))) λAd=>bif (decide ((w64 (Ad.fH+Ab.fH))>p1.fH)) then Qac (Qfh 40 Aa [(⟨[],0,0⟩:Load)]) λAf=>Qdl fu k7 Ac Ab Af (w64 ((w64 ((Aa.length:Int) - 1))+1)) else Qac (ix Aa (w64 ((Aa.length:Int) - 1))) λAi=>bif (decide ((w64 (Ad.fQ+Ab.fQ))>p1.fQ)) then Qac (Qfh 40 Aa [(⟨[],0,0⟩:Load)]) λAh=>Qdl fu k7 Ac Ab Ah (w64 ((w64 ((Aa.length:Int) - 1))+1)) else Qdl fu k7 Ac Ab Aa (w64 ((Aa.length:Int) - 1)) else some (Aa)
def Qch (fu:Nat)  (p1:Pallet) (Aa:List Layer):Nat→List Load→Int→Option ((List Load))
  | 0=>λ_ _=>none
  | n+1=>Qla fu p1 Aa (Qch fu p1 Aa n)
def Qo1 (fu:Nat) (p1:Pallet) (Aa:List Layer):Option ((List Load)) :=
  Qac (Qm4 fu p1 Aa) λAb=>bif (!Ab) then some (([]:List Load)) else Qch fu p1 Aa fu (([]:List Load)) 0
def Qlc (fu:Nat) (Aj:List Spot→Int→Int→Option ((List Spot))) (Ag:List Box) (Am:(List Shelf)) (Al:Int) (Ak:Int) (Ad:Int) (Ah:Int) (Aq:Int) (Af:Shelf) (Ao:List Spot→Int→Int→Option ((List Spot))) (Ac:List Spot) (Ae:Int) (Aa:Int):Option ((List Spot)) :=
  bif (decide (Aa<(Af.f0.length:Int))) then Qac (ix Af.f0 Aa) λAb=>Qac (ix Ac Ab) λAr=>Qac (ix Ag Ab) λAi=>Ao (Qhs Ac Ab (⟨Al,Ae,Ad,Ak⟩:Spot)) (w64 (Ae+Ai.fW)) (w64 (Aa+1)) else Qac (ix Am Aq) λAp=>Aj Ac (w64 (Ad+Ap.fD)) (w64 (Ah+1))
def Qgd (fu:Nat) (Ad:List Spot→Int→Int→Option ((List Spot))) (Ab:List Box) (Ah:(List Shelf)) (Ag:Int) (Ae:Int) (Aa:Int) (Ac:Int) (Ai:Int) (Af:Shelf):Nat→List Spot→Int→Int→Option ((List Spot))
  | 0=>λ_ _ _=>none
  | n+1=>Qlc fu Ad Ab Ah Ag Ae Aa Ac Ai Af (Qgd fu Ad Ab Ah Ag Ae Aa Ac Ai Af n)
def Qj4 (fu:Nat) (Aj:List Spot→Int→Int→Option ((List Spot))) (Ai:List Box) (Ad:(List Shelf)) (Ak:(List Layer)) (Ap:Int) (Ac:Int) (Ag:Int) (Aq:Int) (Ab:Layer) (Ao:List Spot→Int→Int→Option ((List Spot))) (Ae:List Spot) (Ah:Int) (Aa:Int):Option ((List Spot)) :=
  bif (decide (Aa<(Ab.fP.length:Int))) then Qac (ix Ab.fP Aa) λAf=>Qac (ix Ad Af) λAm=>Qgd fu Ao Ai Ad Ap Ac Ah Aa Af Am fu Ae 0 0 else Qac (ix Ak Aq) λAl=>Aj Ae (w64 (Ac+Al.fH)) (w64 (Ag+1))
def Qdi (fu:Nat) (Ac:List Spot→Int→Int→Option ((List Spot))) (Ab:List Box) (Ah:(List Shelf)) (Ad:(List Layer)) (Ag:Int) (Af:Int) (Aa:Int) (Ai:Int) (Ae:Layer):Nat→List Spot→Int→Int→Option ((List Spot))
  | 0=>λ_ _ _=>none
  | n+1=>Qj4 fu Ac Ab Ah Ad Ag Af Aa Ai Ae (Qdi fu Ac Ab Ah Ad Ag Af Aa Ai Ae n)
def Qks (fu:Nat) (Al:List Spot→Int→Option ((List Spot))) (Ag:List Box) (Ak:(List Shelf)) (Ac:(List Layer)) (Ae:Int) (Ad:Load) (Ah:List Spot→Int→Int→Option ((List Spot))) (Ab:List Spot) (Aj:Int) (Aa:Int):Option ((List Spot)) :=
  bif (decide (Aa<(Ad.fK.length:Int))) then Qac (ix Ad.fK Aa) λAf=>Qac (ix Ac Af) λAi=>Qdi fu Ah Ag Ak Ac Ae Aj Aa Af Ai fu Ab 0 0 else Al Ab (w64 (Ae+1))
def Qcf (fu:Nat) (Af:List Spot→Int→Option ((List Spot))) (Aa:List Box) (Ae:(List Shelf)) (Ab:(List Layer)) (Ad:Int) (Ac:Load):Nat→List Spot→Int→Int→Option ((List Spot))
  | 0=>λ_ _ _=>none
  | n+1=>Qks fu Af Aa Ae Ab Ad Ac (Qcf fu Af Aa Ae Ab Ad Ac n)
def Qj7 (fu:Nat)  (Ad:List Box) (Ag:(List Shelf)) (Ae:(List Layer)) (Ab:(List Load)) (Ah:List Spot→Int→Option ((List Spot))) (Ac:List Spot) (Aa:Int):Option ((List Spot)) :=
  bif (decide (Aa<(Ab.length:Int))) then Qac (ix Ab Aa) λAf=>Qcf fu Ah Ad Ag Ae Aa Af fu Ac 0 0 else some (Ac)
def Qbp (fu:Nat)  (Ad:List Box) (Aa:(List Shelf)) (Ac:(List Layer)) (Ab:(List Load)):Nat→List Spot→Int→Option ((List Spot))
  | 0=>λ_ _=>none
  | n+1=>Qj7 fu Ad Aa Ac Ab (Qbp fu Ad Aa Ac Ab n)
def Ql0 (fu:Nat) (p1:Pallet) (Aa:List Box):Option ((List Spot)) :=
  Qac (Qlx fu p1 Aa) λAe=>bif (!Ae) then some (([]:List Spot)) else Qac (Qpa fu p1 Aa) λAc=>Qac (Qm7 fu p1 Ac) λAb=>Qac (mk 32 (⟨(0:Int),(0:Int),(0:Int),(0:Int)⟩:Spot) (Aa.length:Int)) λAf=>Qac (Qo1 fu p1 Ab) λAd=>Qbp fu Aa Ac Ab Ad fu Af 0
def Qjl (fu:Nat) (k3:Int→Int→Option (Int)) (Aa:Int) (Ab:Int):Option (Int) :=
  k3 Ab (w64 (Aa+1))
def Qkq (fu:Nat)  (Ad:List Spot) (k3:Int→Int→Option (Int)) (Aa:Int) (Ab:Int):Option (Int) :=
  bif (decide (Ab<(Ad.length:Int))) then Qac (ix Ad Ab) λAc=>Qac (Qay fu Ac.fJ 0 999999) λAe=>bif Ae then Qjl fu k3 Ab (if (w64 (Ac.fJ+1))>Aa then w64 (Ac.fJ+1) else Aa) else Qjl fu k3 Ab Aa else some (Aa)
def Qe1 (fu:Nat)  (Aa:List Spot):Nat→Int→Int→Option (Int)
  | 0=>λ_ _=>none
  | n+1=>Qkq fu Aa (Qe1 fu Aa n)
def Ql4 (fu:Nat) (Aa:List Spot):Option (Int) :=
  Qe1 fu Aa fu 0 0
def Qll (fu:Nat) (Ac:List Box→Int→Option (Plan×Bool)) (Aa:Int) (Ab:List Box):Option (Plan×Bool) :=
  Ac Ab (w64 (Aa+1))
def Qmo (fu:Nat) (Af:List Spot→Int→Int→Option (Plan×Bool)) (Ac:Int) (Ah:Int) (Ad:(List Spot)) (Ag:Int) (Aj:List Spot→Int→Option (Plan×Bool)) (Ae:List Spot) (Ab:Int):Option (Plan×Bool) :=
  bif (decide (Ab<(Ad.length:Int))) then Qac (ix Ad Ab) λAa=>Qac (Qfh 32 Ae (([(⟨w64 (Aa.fJ+Ac),Aa.fX,Aa.fY,Aa.fZ⟩:Spot)]:List Spot))) λAi=>Aj Ai (w64 (Ab+1)) else Af Ae (w64 (Ac+Ag)) (w64 (Ah+1))
def Qf3 (fu:Nat) (Aa:List Spot→Int→Int→Option (Plan×Bool)) (Ac:Int) (Ad:Int) (Ae:(List Spot)) (Ab:Int):Nat→List Spot→Int→Option (Plan×Bool)
  | 0=>λ_ _=>none
  | n+1=>Qmo fu Aa Ac Ad Ae Ab (Qf3 fu Aa Ac Ad Ae Ab n)
def Qmm (fu:Nat) (Ah:List Spot→Int→Int→Option (Plan×Bool)) (r1:Request) (Ac:(List Carton)) (Al:List Spot) (Aj:Int) (Ae:Int) (Ad:List Box→Int→Option (Plan×Bool)) (Ab:List Box) (Aa:Int):Option (Plan×Bool) :=
  bif (decide (Aa<(Ac.length:Int))) then Qac (ix Ac Aa) λAg=>bif (Ag.f9==Ae) then Qac (Qrh fu r1 Ag) λAk=>Qac (Qfh 32 Ab (([Ak]:List Box))) λAm=>Qll fu Ad Aa Am else Qll fu Ad Aa Ab else Qac (Ql0 fu r1.fJ Ab) λAf=>Qac (Ql4 fu Af) λAi=>Qf3 fu Ah Aj Ae Af Ai fu Al 0
def Qf5 (fu:Nat) (Aa:List Spot→Int→Int→Option (Plan×Bool)) (r1:Request) (Ae:(List Carton)) (Ad:List Spot) (Ab:Int) (Ac:Int):Nat→List Box→Int→Option (Plan×Bool)
  | 0=>λ_ _=>none
  | n+1=>Qmm fu Aa r1 Ae Ad Ab Ac (Qf5 fu Aa r1 Ae Ad Ab Ac n)
def Qmv (fu:Nat)  (r1:Request) (Ac:(List Carton)) (Af:(List (List Int))) (Ad:List Spot→Int→Int→Option (Plan×Bool)) (Ab:List Spot) (Ae:Int) (Aa:Int):Option (Plan×Bool) :=
  bif (decide (Aa<(Af.length:Int))) then Qf5 fu Ad r1 Ac Ab Ae Aa fu (([]:List Box)) 0 else some ((⟨Ac,Ab⟩:Plan),true)
def Qcj (fu:Nat)  (r1:Request) (Aa:(List Carton)) (Ab:(List (List Int))):Nat→List Spot→Int→Int→Option (Plan×Bool)
  | 0=>λ_ _ _=>none
  | n+1=>Qmv fu r1 Aa Ab (Qcj fu r1 Aa Ab n)
def Qqo (fu:Nat) (r1:Request):Option (Plan×Bool) :=
  Qac (Qf4 fu r1) λAa=>bif (!Aa) then some ((⟨[],[]⟩:Plan),false) else Qac (Qlt fu r1) λAb=>Qac (Qhl fu r1) λAc=>Qcj fu r1 Ab Ac fu (([]:List Spot)) 0 0
def Qg4 (fu:Nat) (k3:Int→Option (Bool)) (Aa:Int)  : Option (Bool) :=
  k3 (w64 (Aa+1))
def Qho (fu:Nat)  (Ab:List Int) (k3:Int→Option (Bool)) (Aa:Int):Option (Bool) :=
  bif (decide (Aa<(Ab.length:Int))) then Qac (ix Ab Aa) λAc=>Qac (Qay fu Ac 0 999) λAd=>bif (!Ad) then some (false) else bif (decide (Aa>0)) then Qac (ix Ab (w64 (Aa - 1))) λAe=>bif (decide (Ae≥Ac)) then some (false) else Qg4 fu k3 Aa else Qg4 fu k3 Aa else some (decide ((Ab.length:Int)≤100))
def Qdn (fu:Nat)  (Aa:List Int):Nat→Int→Option (Bool)
  | 0=>λ_=>none
  | n+1=>Qho fu Aa (Qdn fu Aa n)
def Qjn (fu:Nat) (Aa:List Int):Option (Bool) :=
  Qdn fu Aa fu 0
def Qg9 (fu:Nat) (n1:Int):Option (Bool) :=
  Qac (Qay fu n1 0 2000) λx2=>some (x2)
def Qpk (fu:Nat) (k4:Int→Option (Bool)) (Aa:Int)  : Option (Bool) :=
  k4 (w64 (Aa+1))
def Ql8 (fu:Nat)  (x1:Plan) (k4:Int→Option (Bool)) (Ab:Int):Option (Bool) :=
  bif (decide (Ab<(x1.fE.length:Int))) then Qac (ix x1.fE Ab) λAc=>Qac (ix x1.fa Ab) λAa=>Qac (Qay fu Ac.fc 0 999) λAi=>bif (!Ai) then some (false) else Qac (Qay fu Ac.f9 0 3) λAf=>bif (!Af) then some (false) else Qac (Qjn fu Ac.f8) λAj=>bif (!Aj) then some (false) else Qac (Qg9 fu Aa.fJ) λAe=>bif (!Ae) then some (false) else Qac (Qg9 fu Aa.fX) λAg=>bif (!Ag) then some (false) else Qac (Qg9 fu Aa.fY) λAh=>bif (!Ah) then some (false) else Qac (Qg9 fu Aa.fZ) λAd=>bif (!Ad) then some (false) else Qpk fu k4 Ab else some (true)
def Qf1 (fu:Nat)  (x1:Plan):Nat→Int→Option (Bool)
  | 0=>λ_=>none
  | n+1=>Ql8 fu x1 (Qf1 fu x1 n)
def Qpw (fu:Nat) (x1:Plan)  : Option (Bool) :=
  Qf1 fu x1 fu 0
def Qp6 (fu:Nat) (x1:Plan):Option (Bool) :=
  bif ((x1.fa.length:Int) != (x1.fE.length:Int)) then some (false) else bif (decide ((x1.fE.length:Int)>100)) then some (false) else Qpw fu x1
def Qi0 (fu:Nat)  (Ac:List Int) (k1:ByteArray→Int→Option (ByteArray×Bool)) (Ab:ByteArray) (Aa:Int):Option (ByteArray×Bool) :=
  bif (decide (Aa<(Ac.length:Int))) then Qac (ix Ac Aa) λAd=>Qac (Qay fu Ad 0 999999) λAh=>bif (!Ah) then some ((⟨#[]⟩:ByteArray),false) else Qac (Qnx fu Ad) λAg=>Qac (Qu4 (⟨#[32]⟩:ByteArray) Ag) λAf=>Qac (Qu4 Ab Af) λAe=>k1 Ae (w64 (Aa+1)) else Qac (Qu4 Ab (⟨#[10]⟩:ByteArray)) λAi=>some (Ai,true)
def Qeg (fu:Nat)  (Aa:List Int):Nat→ByteArray→Int→Option (ByteArray×Bool)
  | 0=>λ_ _=>none
  | n+1=>Qi0 fu Aa (Qeg fu Aa n)
def Qi5 (fu:Nat) (Aa:ByteArray) (Ab:List Int):Option (ByteArray×Bool) :=
  Qeg fu Ab fu Aa 0
def Qit (fu:Nat)  (x1:Plan) (k1:ByteArray→Int→Option (ByteArray)) (Ad:ByteArray) (Aa:Int):Option (ByteArray) :=
  bif (decide (Aa<(x1.fE.length:Int))) then Qac (ix x1.fE Aa) λAc=>Qac (ix x1.fa Aa) λAb=>Qac (Qfh 8 (([Ac.fc,Ac.f9,Ab.fJ,Ab.fX,Ab.fY,Ab.fZ]:List Int)) Ac.f8) λAf=>Qac (Qi5 fu (⟨#[99,97,114,116,111,110]⟩:ByteArray) Af) λAg=>Qac (Qu4 Ad Ag.1) λAe=>k1 Ae (w64 (Aa+1)) else some (Ad)
def Qdu (fu:Nat)  (x1:Plan):Nat→ByteArray→Int→Option (ByteArray)
  | 0=>λ_ _=>none
  | n+1=>Qit fu x1 (Qdu fu x1 n)
def Qnb (fu:Nat) (x1:Plan):Option (ByteArray) :=
  Qac (Qp6 fu x1) λAa=>bif (!Aa) then some (⟨#[]⟩:ByteArray) else Qdu fu x1 fu (⟨#[]⟩:ByteArray) 0
def Qr9 (fu:Nat) (Aa:ByteArray):Option (ByteArray×Int) :=
  Qac (Qov fu Aa) λx2=>bif (x2 != 0) then some ((⟨#[]⟩:ByteArray),x2) else Qac (Qhx fu Aa) λx7=>Qac (Qqo fu x7.1) λAc=>Qac (Qnb fu Ac.1) λAb=>some (Ab,0)
def Qpg (fu:Nat) (Aa:Int):Option (ByteArray) :=
  Qac (Qay fu Aa 0 (w64 ((((([(⟨#[111,107]⟩:ByteArray),(⟨#[116,101,120,116]⟩:ByteArray),(⟨#[98,111,117,110,100,115]⟩:ByteArray),(⟨#[110,97,109,101,115]⟩:ByteArray),(⟨#[116,97,98,108,101]⟩:ByteArray),(⟨#[117,110,105,116]⟩:ByteArray),(⟨#[112,97,108,108,101,116]⟩:ByteArray)]:List ByteArray)).length:Int)) - 1))) λx7=>bif (!x7) then some (⟨#[]⟩:ByteArray) else Qac (ix (([(⟨#[111,107]⟩:ByteArray),(⟨#[116,101,120,116]⟩:ByteArray),(⟨#[98,111,117,110,100,115]⟩:ByteArray),(⟨#[110,97,109,101,115]⟩:ByteArray),(⟨#[116,97,98,108,101]⟩:ByteArray),(⟨#[117,110,105,116]⟩:ByteArray),(⟨#[112,97,108,108,101,116]⟩:ByteArray)]:List ByteArray)) Aa) λAb=>some (Ab)
def Qrd (fu:Nat) (Aa:Int):Option (ByteArray) :=
  Qac (Qpg fu Aa) λx2=>Qac (Qu4 (⟨#[33,32]⟩:ByteArray) x2) λAb=>some (Ab)
def Qna (fu:Nat) (Ab:ByteArray):Option (ByteArray) :=
  Qac (Qr9 fu Ab) λx2=>bif (x2.2 != 0) then Qac (Qrd fu x2.2) λx7=>Qac (Qu4 x7 (⟨#[10]⟩:ByteArray)) λAa=>some (Aa) else some (x2.1)
end Go.Proofs.YtpcmapfabndggabGreatDoor
