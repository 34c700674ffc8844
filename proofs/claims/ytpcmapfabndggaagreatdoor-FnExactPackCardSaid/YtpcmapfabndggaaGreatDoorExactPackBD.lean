/- FnExactPack: what th.. -/
import Derived.Test.YtpcmapfabndggaaGreatDoorS13
import Derived.Test.YtpcmapfabndggaaGreatDoorS15
import Derived.Test.YtpcmapfabndggaaGreatDoorS22
set_option linter.unusedVariables false
namespace Go.Proofs.YtpcmapfabndggaaGreatDoor
open Go
def Qhd (fu:Nat) (k3:List ByteArray→Int→Int→Option ((List ByteArray))) (Aa:Int) (Ac:List ByteArray) (Ab:Int):Option ((List ByteArray)) :=
  k3 Ac Ab (w64 (Aa+1))
def Qjr (fu:Nat)  (Ab:ByteArray) (Ah:Int) (k3:List ByteArray→Int→Int→Option ((List ByteArray))) (Ac:List ByteArray) (Ad:Int) (Aa:Int):Option ((List ByteArray)) :=
  bif (decide (Aa≤((Ab.size:Int)))) then bif (Aa==((Ab.size:Int))) then Qac (ssl Ab Ad Aa) λAg=>Qac (Qfi 16 Ac (([Ag]:List ByteArray))) λAi=>Qhd fu k3 Aa Ai (w64 (Aa+1)) else Qac (sx Ab Aa) λAe=>bif (Ae==Ah) then Qac (ssl Ab Ad Aa) λAf=>Qac (Qfi 16 Ac (([Af]:List ByteArray))) λAj=>Qhd fu k3 Aa Aj (w64 (Aa+1)) else Qhd fu k3 Aa Ac Ad else some (Ac)
def Qft (fu:Nat)  (Aa:ByteArray) (Ab:Int):Nat→List ByteArray→Int→Int→Option ((List ByteArray))
  | 0=>λ_ _ _=>none
  | n+1=>Qjr fu Aa Ab (Qft fu Aa Ab n)
def Qpv (fu:Nat) (Aa:ByteArray) (Ab:Int):Option ((List ByteArray)) :=
  Qft fu Aa Ab fu (([]:List ByteArray)) 0 0
def Qlp (fu:Nat) (k3:Int→ByteArray→Option (ByteArray)) (Ac:Int) (Aa:ByteArray) (Ae:Int):Option (ByteArray) :=
  Qac (Jet (([(⟨w8 (w64 (48+Ae))⟩:U8)]:List U8))) λAb=>Qac (Qyv Ab Aa) λAd=>k3 (w64 (Int.tdiv Ac 10)) Ad
def Qmq (fu:Nat)  (n1:Int) (k3:Int→ByteArray→Option (ByteArray)) (Aa:Int) (Ab:ByteArray):Option (ByteArray) :=
  bif (Aa != 0) then bif (decide ((Int.tmod Aa 10)<0)) then Qlp fu k3 Aa Ab (w64 (0 - (Int.tmod Aa 10))) else Qlp fu k3 Aa Ab (Int.tmod Aa 10) else bif (decide (n1<0)) then Qac (Qyv (⟨#[45]⟩:ByteArray) Ab) λAc=>some (Ac) else some (Ab)
def Qf3 (fu:Nat)  (n1:Int):Nat→Int→ByteArray→Option (ByteArray)
  | 0=>λ_ _=>none
  | n+1=>Qmq fu n1 (Qf3 fu n1 n)
def Qlb (fu:Nat) (n1:Int):Option (ByteArray) :=
  bif (n1==0) then some (⟨#[48]⟩:ByteArray) else Qf3 fu n1 fu n1 (⟨#[]⟩:ByteArray)
def Qpo (fu:Nat) (k8:Int→Int→Option (Int×Bool)) (Ab:Int) (Aa:Int):Option (Int×Bool) :=
  k8 Aa (w64 (Ab+1))
def Qps (fu:Nat) (k8:Int→Int→Option (Int×Bool)) (Ab:ByteArray) (Ac:Int) (Aa:Int)  : Option (Int×Bool) :=
  Qac (sx Ab Aa) λAd=>Qpo fu k8 Aa (w64 ((w64 ((w64 (10*Ac))+(w64 Ad))) - 48))
def Ql9 (fu:Nat)  (Aa:ByteArray) (k8:Int→Int→Option (Int×Bool)) (Ac:Int) (Ab:Int):Option (Int×Bool) :=
  bif (decide (Ab<((Aa.size:Int)))) then Qac (sx Aa Ab) λAd=>bif (decide (Ad<48)) then some (0,false) else Qac (sx Aa Ab) λAf=>bif (decide (Af>57)) then some (0,false) else Qps fu k8 Aa Ac Ab else Qac (Qlb fu Ac) λAe=>bif (!(Ae.toList==Aa.toList)) then some (0,false) else some (Ac,true)
def Qes (fu:Nat)  (Aa:ByteArray):Nat→Int→Int→Option (Int×Bool)
  | 0=>λ_ _=>none
  | n+1=>Ql9 fu Aa (Qes fu Aa n)
def Qpg (fu:Nat) (Aa:ByteArray)  : Option (Int×Bool) :=
  Qes fu Aa fu 0 0
def Qnx (fu:Nat) (Aa:ByteArray):Option (Int×Bool) :=
  bif (decide (((Aa.size:Int))<1)) then some (0,false) else bif (decide (((Aa.size:Int))>6)) then some (0,false) else Qpg fu Aa
def Qmp (fu:Nat)  (x4:(List ByteArray)) (k2:List Int→Int→Option ((List Int)×Bool)) (Ab:List Int) (Aa:Int):Option ((List Int)×Bool) :=
  bif (decide (Aa<(x4.length:Int))) then Qac (ix x4 Aa) λAd=>Qac (Qnx fu Ad) λAc=>bif (!Ac.2) then some (([]:List Int),false) else Qac (Qfi 8 Ab (([Ac.1]:List Int))) λAe=>k2 Ae (w64 (Aa+1)) else some (Ab,true)
def Qg1 (fu:Nat)  (x4:(List ByteArray)):Nat→List Int→Int→Option ((List Int)×Bool)
  | 0=>λ_ _=>none
  | n+1=>Qmp fu x4 (Qg1 fu x4 n)
def Qpq (fu:Nat) (x4:(List ByteArray))  : Option ((List Int)×Bool) :=
  Qg1 fu x4 fu (([]:List Int)) 1
def Qnq (fu:Nat) (Ac:ByteArray) (Ad:ByteArray) (Aa:Int):Option ((List Int)×Bool) :=
  Qac (Qpv fu Ac 32) λx4=>Qac (ix x4 0) λAb=>bif (!(Ab.toList==Ad.toList)) then some (([]:List Int),false) else bif ((x4.length:Int) != (w64 (Aa+1))) then some (([]:List Int),false) else Qpq fu x4
def Qbk (fu:Nat) (Ac:List ByteArray) (Aa:Int) (Af:ByteArray) (Ae:Int):Option ((List Int)×Bool) :=
  bif (decide (Aa≥(w64 ((Ac.length:Int) - 1)))) then some (([]:List Int),false) else Qac (ix Ac Aa) λAd=>Qac (Qnq fu Ad Af Ae) λAb=>some (Ab.1,Ab.2)
def Qh3 (fu:Nat)  (x5:(List ByteArray)) (Ap:Int) (Aw:Int) (Au:Int) (Ax:Int) (Av:Int) (Ao:Int) (Ah:List Pair) (Al:List Typ) (Ag:Int) (k5:List Item→Int→List Int→Bool→Option (Request×Int)) (Ac:List Item) (Ab:Int) (Aa:List Int) (Ai:Bool):Option (Request×Int) :=
  bif Ai then Qac (ix Aa 0) λAq=>Qac (ix Aa 1) λAj=>Qac (ix Aa 2) λAm=>Qac (ix Aa 3) λAs=>Qac (ix Aa 4) λAr=>Qac (ix Aa 5) λAe=>Qac (ix Aa 6) λAt=>Qac (Qfi 56 Ac (([(⟨Aq,Aj,Am,As,Ar,Ae,At⟩:Item)]:List Item))) λAf=>Qac (Qbk fu x5 (w64 (Ab+1)) (⟨#[105,116,101,109]⟩:ByteArray) 7) λAd=>k5 Af (w64 (Ab+1)) Ad.1 Ad.2 else bif (decide (Ab<(w64 ((x5.length:Int) - 1)))) then some ((⟨0,(⟨0,0,0,0⟩:Pallet),0,[],[],0,[]⟩:Request),Ab) else Qac (ix x5 (w64 ((x5.length:Int) - 1))) λAk=>bif (!(Ak.toList==(⟨#[]⟩:ByteArray).toList)) then some ((⟨0,(⟨0,0,0,0⟩:Pallet),0,[],[],0,[]⟩:Request),Ab) else some ((⟨Ap,(⟨Aw,Au,Ax,Av⟩:Pallet),Ao,Ah,Al,Ag,Ac⟩:Request),(-1))
def Qew (fu:Nat)  (x5:(List ByteArray)) (Ai:Int) (Ac:Int) (Aa:Int) (Ag:Int) (Ab:Int) (Af:Int) (Ah:List Pair) (Ad:List Typ) (Ae:Int):Nat→List Item→Int→List Int→Bool→Option (Request×Int)
  | 0=>λ_ _ _ _=>none
  | n+1=>Qh3 fu x5 Ai Ac Aa Ag Ab Af Ah Ad Ae (Qew fu x5 Ai Ac Aa Ag Ab Af Ah Ad Ae n)
def Qia (fu:Nat)  (x5:(List ByteArray)) (As:Int) (Aw:Int) (Au:Int) (Ax:Int) (Av:Int) (Ar:Int) (Ai:List Pair) (k4:List Typ→Int→List Int→Bool→Option (Request×Int)) (Ac:List Typ) (Ab:Int) (Aa:List Int) (Aq:Bool):Option (Request×Int) :=
  bif Aq then Qac (ix Aa 0) λAj=>Qac (ix Aa 1) λAo=>Qac (ix Aa 2) λAl=>Qac (ix Aa 3) λAk=>Qac (ix Aa 4) λAm=>Qac (ix Aa 5) λAp=>Qac (ix Aa 6) λAt=>Qac (Qfi 56 Ac (([(⟨Aj,Ao,Al,Ak,Am,Ap,At⟩:Typ)]:List Typ))) λAg=>Qac (Qbk fu x5 (w64 (Ab+1)) (⟨#[116,121,112,101]⟩:ByteArray) 7) λAd=>k4 Ag (w64 (Ab+1)) Ad.1 Ad.2 else Qac (Qbk fu x5 Ab (⟨#[109,97,115,116,101,114]⟩:ByteArray) 1) λAe=>bif (!Ae.2) then some ((⟨0,(⟨0,0,0,0⟩:Pallet),0,[],[],0,[]⟩:Request),Ab) else Qac (ix Ae.1 0) λAh=>Qac (Qbk fu x5 (w64 (Ab+1)) (⟨#[105,116,101,109]⟩:ByteArray) 7) λAf=>Qew fu x5 As Aw Au Ax Av Ar Ai Ac Ah fu (([]:List Item)) (w64 (Ab+1)) Af.1 Af.2
def Qe0 (fu:Nat)  (x5:(List ByteArray)) (Ag:Int) (Ac:Int) (Aa:Int) (Ae:Int) (Ab:Int) (Ad:Int) (Af:List Pair):Nat→List Typ→Int→List Int→Bool→Option (Request×Int)
  | 0=>λ_ _ _ _=>none
  | n+1=>Qia fu x5 Ag Ac Aa Ae Ab Ad Af (Qe0 fu x5 Ag Ac Aa Ae Ab Ad Af n)
def Qnc (fu:Nat)  (x5:(List ByteArray)) (Ap:Int) (Ak:Int) (Ai:Int) (Ao:Int) (Al:Int) (Am:Int) (k3:List Pair→Int→List Int→Bool→Option (Request×Int)) (Ad:List Pair) (Aa:Int) (Ae:List Int) (Aj:Bool):Option (Request×Int) :=
  bif Aj then Qac (ix Ae 0) λAf=>Qac (ix Ae 1) λAh=>Qac (Qfi 16 Ad (([(⟨Af,Ah⟩:Pair)]:List Pair))) λAg=>Qac (Qbk fu x5 (w64 (Aa+1)) (⟨#[119,105,116,104]⟩:ByteArray) 2) λAb=>k3 Ag (w64 (Aa+1)) Ab.1 Ab.2 else Qac (Qbk fu x5 Aa (⟨#[116,121,112,101]⟩:ByteArray) 7) λAc=>Qe0 fu x5 Ap Ak Ai Ao Al Am Ad fu (([]:List Typ)) Aa Ac.1 Ac.2
def Qgj (fu:Nat)  (x5:(List ByteArray)) (Af:Int) (Ac:Int) (Aa:Int) (Ae:Int) (Ab:Int) (Ad:Int):Nat→List Pair→Int→List Int→Bool→Option (Request×Int)
  | 0=>λ_ _ _ _=>none
  | n+1=>Qnc fu x5 Af Ac Aa Ae Ab Ad (Qgj fu x5 Af Ac Aa Ae Ab Ad n)
def Qd1 (fu:Nat) (x5:(List ByteArray)) (Ai:Int):Option (Request×Int) :=
  Qac (Qbk fu x5 1 (⟨#[112,97,108,108,101,116]⟩:ByteArray) 4) λAa=>bif (!Aa.2) then some ((⟨0,(⟨0,0,0,0⟩:Pallet),0,[],[],0,[]⟩:Request),1) else Qac (ix Aa.1 0) λAf=>Qac (ix Aa.1 1) λAd=>Qac (ix Aa.1 2) λAh=>Qac (ix Aa.1 3) λAe=>Qac (Qbk fu x5 2 (⟨#[99,108,97,115,115,101,115]⟩:ByteArray) 1) λAc=>bif (!Ac.2) then some ((⟨0,(⟨0,0,0,0⟩:Pallet),0,[],[],0,[]⟩:Request),2) else Qac (ix Ac.1 0) λAg=>Qac (Qbk fu x5 3 (⟨#[119,105,116,104]⟩:ByteArray) 2) λAb=>Qgj fu x5 Ai Af Ad Ah Ae Ag fu (([]:List Pair)) 3 Ab.1 Ab.2
def Qgf (fu:Nat) (x5:(List ByteArray))  : Option (Request×Int) :=
  Qac (ix x5 0) λAa=>bif (Aa.toList==(⟨#[119,97,121,32,110,101,120,116]⟩:ByteArray).toList) then Qd1 fu x5 1 else Qd1 fu x5 0
def Qhw (fu:Nat) (Ab:ByteArray):Option (Request×Int) :=
  Qac (Qpv fu Ab 10) λx5=>bif (decide ((w64 ((x5.length:Int) - 1))>60)) then some ((⟨0,(⟨0,0,0,0⟩:Pallet),0,[],[],0,[]⟩:Request),60) else bif (decide ((w64 ((x5.length:Int) - 1))<1)) then some ((⟨0,(⟨0,0,0,0⟩:Pallet),0,[],[],0,[]⟩:Request),0) else Qac (ix x5 0) λAa=>bif (!(Aa.toList==(⟨#[119,97,121,32,102,105,114,115,116]⟩:ByteArray).toList)) then Qac (ix x5 0) λAc=>bif (!(Aa.toList==(⟨#[119,97,121,32,110,101,120,116]⟩:ByteArray).toList)) then some ((⟨0,(⟨0,0,0,0⟩:Pallet),0,[],[],0,[]⟩:Request),0) else Qgf fu x5 else Qgf fu x5
def Qau (fu:Nat) (x1:Int) (Aa:Int) (Ab:Int):Option (Bool) :=
  bif (decide (x1≥Aa)) then some (decide (x1≤Ab)) else some (false)
def Qea (fu:Nat) (x1:Int):Option (Bool) :=
  Qac (Qau fu x1 1 2000) λx2=>some (x2)
def Qgt (fu:Nat) (x1:Pallet):Option (Bool) :=
  Qac (Qea fu x1.fW) λx5=>bif x5 then Qac (Qea fu x1.fD) λAb=>bif Ab then Qac (Qea fu x1.fH) λAa=>bif Aa then Qac (Qau fu x1.fQ 1 100000) λAc=>some (Ac) else some (false) else some (false) else some (false)
def Qm2 (fu:Nat) (x1:Int):Option (Bool) :=
  Qac (Qau fu x1 0 999) λx2=>some (x2)
def Qqf (fu:Nat) (x1:Typ):Option (Bool) :=
  Qac (Qm2 fu x1.f8) λx5=>bif x5 then Qac (Qea fu x1.fW) λAf=>bif Af then Qac (Qea fu x1.fH) λAb=>bif Ab then Qac (Qea fu x1.fD) λAe=>bif Ae then Qac (Qau fu x1.fO 0 100000) λAd=>bif Ad then Qac (Qau fu x1.fQ 1 100000) λAc=>bif Ac then Qac (Qau fu x1.fL 0 100000) λAa=>some (Aa) else some (false) else some (false) else some (false) else some (false) else some (false) else some (false)
def Qqj (fu:Nat) (x1:Item):Option (Bool) :=
  Qac (Qm2 fu x1.f8) λx5=>bif x5 then Qac (Qea fu x1.fW) λAf=>bif Af then Qac (Qea fu x1.fH) λAb=>bif Ab then Qac (Qea fu x1.fD) λAe=>bif Ae then Qac (Qau fu x1.fQ 1 100000) λAd=>bif Ad then Qac (Qau fu x1.fM 0 3) λAc=>bif Ac then Qac (Qau fu x1.fF 1 6) λAa=>some (Aa) else some (false) else some (false) else some (false) else some (false) else some (false) else some (false)
def Qmg (fu:Nat) (k4:Int→Option (Bool)) (Aa:Int)  : Option (Bool) :=
  k4 (w64 (Aa+1))
def Qix (fu:Nat)  (r1:Request) (k7:Int→Int→Option (Bool)) (Ac:Int) (Aa:Int):Option (Bool) :=
  bif (decide (Aa<(r1.fV.length:Int))) then Qac (ix r1.fV Aa) λAb=>Qac (Qqj fu Ab) λAd=>bif (!Ad) then some (false) else Qac (ix r1.fV Aa) λAe=>k7 (w64 (Ac+Ab.fF)) (w64 (Aa+1)) else some (decide (Ac≤12))
def Qdw (fu:Nat)  (r1:Request):Nat→Int→Int→Option (Bool)
  | 0=>λ_ _=>none
  | n+1=>Qix fu r1 (Qdw fu r1 n)
def Qin (fu:Nat)  (r1:Request) (k6:Int→Option (Bool)) (Aa:Int):Option (Bool) :=
  bif (decide (Aa<(r1.fG.length:Int))) then Qac (ix r1.fG Aa) λAc=>Qac (Qqf fu Ac) λAb=>bif (!Ab) then some (false) else k6 (w64 (Aa+1)) else Qdw fu r1 fu 0 0
def Qds (fu:Nat)  (r1:Request):Nat→Int→Option (Bool)
  | 0=>λ_=>none
  | n+1=>Qin fu r1 (Qds fu r1 n)
def Qip (fu:Nat)  (r1:Request) (k4:Int→Option (Bool)) (Aa:Int):Option (Bool) :=
  bif (decide (Aa<(r1.fR.length:Int))) then Qac (ix r1.fR Aa) λAb=>Qac (Qau fu Ab.fA 0 3) λAc=>bif (!Ac) then some (false) else Qac (ix r1.fR Aa) λAe=>Qac (Qau fu Ab.fB 0 3) λAd=>bif (!Ad) then some (false) else Qmg fu k4 Aa else Qds fu r1 fu 0
def Qdr (fu:Nat)  (r1:Request):Nat→Int→Option (Bool)
  | 0=>λ_=>none
  | n+1=>Qip fu r1 (Qdr fu r1 n)
def Qmk (fu:Nat) (r1:Request)  : Option (Bool) :=
  Qdr fu r1 fu 0
def Qni (fu:Nat) (r1:Request):Option (Bool) :=
  Qac (Qau fu r1.ff 0 1) λAc=>bif (!Ac) then some (false) else Qac (Qgt fu r1.fJ) λAa=>bif (!Aa) then some (false) else Qac (Qau fu r1.fU 1 4) λAb=>bif (!Ab) then some (false) else bif (decide ((r1.fR.length:Int)>16)) then some (false) else Qac (Qau fu (r1.fG.length:Int) 1 5) λAd=>bif (!Ad) then some (false) else Qac (Qm2 fu r1.fT) λAe=>bif (!Ae) then some (false) else bif (decide ((r1.fV.length:Int)>8)) then some (false) else Qmk fu r1
def Qir (fu:Nat)  (r1:Request) (k1:Int→Option (Typ×Bool)) (Aa:Int):Option (Typ×Bool) :=
  bif (decide (Aa<(r1.fG.length:Int))) then Qac (ix r1.fG Aa) λAb=>bif (Ab.f8==r1.fT) then Qac (ix r1.fG Aa) λAc=>some (Ab,true) else k1 (w64 (Aa+1)) else some ((⟨0,0,0,0,0,0,0⟩:Typ),false)
def Qfl (fu:Nat)  (r1:Request):Nat→Int→Option (Typ×Bool)
  | 0=>λ_=>none
  | n+1=>Qir fu r1 (Qfl fu r1 n)
def Qgx (fu:Nat) (r1:Request):Option (Typ×Bool) :=
  Qfl fu r1 fu 0
def Qkh (fu:Nat) (k3:Int→Option (Bool)) (r1:Request) (Ab:Int) (k4:Int→Option (Bool)) (Aa:Int):Option (Bool) :=
  bif (decide (Aa<Ab)) then Qac (ix r1.fG Ab) λAd=>Qac (ix r1.fG Aa) λAc=>bif (Ad.f8==Ac.f8) then some (false) else k4 (w64 (Aa+1)) else k3 (w64 (Ab+1))
def Qec (fu:Nat) (k3:Int→Option (Bool)) (r1:Request) (Aa:Int):Nat→Int→Option (Bool)
  | 0=>λ_=>none
  | n+1=>Qkh fu k3 r1 Aa (Qec fu k3 r1 Aa n)
def Qks (fu:Nat) (k7:Int→Option (Bool)) (r1:Request) (Ab:Int) (k8:Int→Option (Bool)) (Aa:Int):Option (Bool) :=
  bif (decide (Aa<Ab)) then Qac (ix r1.fV Ab) λAc=>Qac (ix r1.fV Aa) λAd=>bif (Ac.f8==Ad.f8) then some (false) else k8 (w64 (Aa+1)) else k7 (w64 (Ab+1))
def Qd7 (fu:Nat) (k7:Int→Option (Bool)) (r1:Request) (Aa:Int):Nat→Int→Option (Bool)
  | 0=>λ_=>none
  | n+1=>Qks fu k7 r1 Aa (Qd7 fu k7 r1 Aa n)
def Qn3 (fu:Nat) (Aa:Int→Option (Bool)) (Ab:Int)  : Option (Bool) :=
  Aa (w64 (Ab+1))
def Qkj (fu:Nat)  (r1:Request) (Ac:Int→Option (Bool)) (Aa:Int):Option (Bool) :=
  bif (decide (Aa<(r1.fR.length:Int))) then Qac (ix r1.fR Aa) λAb=>bif (decide (Ab.fA≥r1.fU)) then some (false) else Qac (ix r1.fR Aa) λAe=>bif (decide (Ab.fB≥r1.fU)) then some (false) else Qn3 fu Ac Aa else Qac (Qgx fu r1) λAd=>some (Ad.2)
def Qdl (fu:Nat)  (r1:Request):Nat→Int→Option (Bool)
  | 0=>λ_=>none
  | n+1=>Qkj fu r1 (Qdl fu r1 n)
def Qkg (fu:Nat)  (r1:Request) (k7:Int→Option (Bool)) (Aa:Int):Option (Bool) :=
  bif (decide (Aa<(r1.fV.length:Int))) then Qac (ix r1.fV Aa) λAb=>bif (decide (Ab.fM≥r1.fU)) then some (false) else Qd7 fu k7 r1 Aa fu 0 else Qdl fu r1 fu 0
def Qbn (fu:Nat)  (r1:Request):Nat→Int→Option (Bool)
  | 0=>λ_=>none
  | n+1=>Qkg fu r1 (Qbn fu r1 n)
def Qj2 (fu:Nat)  (r1:Request) (k3:Int→Option (Bool)) (Aa:Int):Option (Bool) :=
  bif (decide (Aa<(r1.fG.length:Int))) then Qec fu k3 r1 Aa fu 0 else Qbn fu r1 fu 0
def Qbt (fu:Nat)  (r1:Request):Nat→Int→Option (Bool)
  | 0=>λ_=>none
  | n+1=>Qj2 fu r1 (Qbt fu r1 n)
def Qoz (fu:Nat) (r1:Request):Option (Bool) :=
  Qbt fu r1 fu 0
def Qlf (fu:Nat) (k3:Int→Option (Bool)) (Aa:Int)  : Option (Bool) :=
  k3 (w64 (Aa+1))
def Qmu (fu:Nat)  (Ab:List Pair) (a5:Int) (b6:Int) (k3:Int→Option (Bool)) (Aa:Int):Option (Bool) :=
  bif (decide (Aa<(Ab.length:Int))) then Qac (ix Ab Aa) λAc=>bif (Ac.fA==a5) then Qac (ix Ab Aa) λAd=>bif (Ac.fB==b6) then some (true) else Qlf fu k3 Aa else Qlf fu k3 Aa else some (false)
def Qf2 (fu:Nat)  (Aa:List Pair) (a5:Int) (b6:Int):Nat→Int→Option (Bool)
  | 0=>λ_=>none
  | n+1=>Qmu fu Aa a5 b6 (Qf2 fu Aa a5 b6 n)
def Qfm (fu:Nat) (Aa:List Pair) (a5:Int) (b6:Int):Option (Bool) :=
  Qf2 fu Aa a5 b6 fu 0
def Qjq (fu:Nat) (Ab:Int→Option (Bool)) (Aa:Int)  : Option (Bool) :=
  Ab (w64 (Aa+1))
def Qj7 (fu:Nat) (k9:Int→Option (Bool)) (Ac:List Pair) (Ag:Int) (Ab:Int) (Ad:Int→Option (Bool)) (Aa:Int):Option (Bool) :=
  bif (decide (Aa<Ag)) then bif (Ab==Aa) then Qac (Qfm fu Ac Ab Ab) λAe=>bif (!Ae) then some (false) else Qac (Qfm fu Ac Ab Aa) λAi=>Qac (Qfm fu Ac Aa Ab) λAf=>bif (!(Ai==Af)) then some (false) else Qjq fu Ad Aa else Qac (Qfm fu Ac Ab Aa) λAj=>Qac (Qfm fu Ac Aa Ab) λAh=>bif (!(Aj==Ah)) then some (false) else Qjq fu Ad Aa else k9 (w64 (Ab+1))
def Qd5 (fu:Nat) (k9:Int→Option (Bool)) (Aa:List Pair) (Ac:Int) (Ab:Int):Nat→Int→Option (Bool)
  | 0=>λ_=>none
  | n+1=>Qj7 fu k9 Aa Ac Ab (Qd5 fu k9 Aa Ac Ab n)
def Qj0 (fu:Nat)  (Ac:List Pair) (Ab:Int) (k9:Int→Option (Bool)) (Aa:Int):Option (Bool) :=
  bif (decide (Aa<Ab)) then Qd5 fu k9 Ac Ab Aa fu 0 else some (true)
def Qde (fu:Nat)  (Aa:List Pair) (Ab:Int):Nat→Int→Option (Bool)
  | 0=>λ_=>none
  | n+1=>Qj0 fu Aa Ab (Qde fu Aa Ab n)
def Qoo (fu:Nat) (Ab:List Pair) (Aa:Int):Option (Bool) :=
  Qac (Qau fu Aa 1 4) λx6=>bif (!x6) then some (false) else Qde fu Ab Aa fu 0
def Qiv (fu:Nat)  (n1:Int) (k1:List Int→Int→Option ((List Int))) (Ab:List Int) (Aa:Int):Option ((List Int)) :=
  bif (decide (Aa<n1)) then Qac (Qfi 8 Ab (([Aa]:List Int))) λAc=>k1 Ac (w64 (Aa+1)) else some (Ab)
def Qfn (fu:Nat)  (n1:Int):Nat→List Int→Int→Option ((List Int))
  | 0=>λ_ _=>none
  | n+1=>Qiv fu n1 (Qfn fu n1 n)
def Qi4 (fu:Nat) (n1:Int):Option ((List Int)) :=
  Qfn fu n1 fu (([]:List Int)) 0
def Qhb (fu:Nat) (k3:List Int→Int→Int→Option ((List Int))) (Ah:List Int) (Ai:Bool) (Ad:(List Int)) (Ae:(List Int)) (Ac:List Int) (Aa:Int) (Ab:Int)  : Option ((List Int)) :=
  bif (Ab==(Ae.length:Int)) then Qac (ix Ad Aa) λAo=>Qac (Qfi 8 Ac (([Ao]:List Int))) λAw=>k3 Aw (w64 (Aa+1)) Ab else bif (Aa==(Ad.length:Int)) then Qac (ix Ae Ab) λAu=>Qac (Qfi 8 Ac (([Au]:List Int))) λAm=>k3 Am Aa (w64 (Ab+1)) else Qac (ix Ae Ab) λAg=>Qac (ix Ah Ag) λAj=>Qac (ix Ad Aa) λAf=>Qac (ix Ah Af) λAk=>bif (decide (Aj<Ak)) then bif (!Ai) then Qac (ix Ae Ab) λBf=>Qac (Qfi 8 Ac (([Ag]:List Int))) λAs=>k3 As Aa (w64 (Ab+1)) else Qac (ix Ae Ab) λBa=>Qac (ix Ah Ag) λBh=>Qac (ix Ad Aa) λBl=>Qac (ix Ah Af) λAx=>bif (decide (Aj>Ak)) then bif Ai then Qac (ix Ae Ab) λBd=>Qac (Qfi 8 Ac (([Ag]:List Int))) λAp=>k3 Ap Aa (w64 (Ab+1)) else Qac (ix Ad Aa) λBe=>Qac (Qfi 8 Ac (([Af]:List Int))) λAv=>k3 Av (w64 (Aa+1)) Ab else Qac (ix Ad Aa) λAz=>Qac (Qfi 8 Ac (([Af]:List Int))) λAt=>k3 At (w64 (Aa+1)) Ab else Qac (ix Ae Ab) λBc=>Qac (ix Ah Ag) λBg=>Qac (ix Ad Aa) λBj=>Qac (ix Ah Af) λBk=>bif (decide (Aj>Ak)) then bif Ai then Qac (ix Ae Ab) λBb=>Qac (Qfi 8 Ac (([Ag]:List Int))) λAl=>k3 Al Aa (w64 (Ab+1)) else Qac (ix Ad Aa) λBi=>Qac (Qfi 8 Ac (([Af]:List Int))) λAr=>k3 Ar (w64 (Aa+1)) Ab else Qac (ix Ad Aa) λAy=>Qac (Qfi 8 Ac (([Af]:List Int))) λAq=>k3 Aq (w64 (Aa+1)) Ab
def Qkq (fu:Nat)  (Af:List Int) (Ag:Bool) (Ac:(List Int)) (Ad:(List Int)) (k3:List Int→Int→Int→Option ((List Int))) (Aa:List Int) (Ab:Int) (Ae:Int):Option ((List Int)) :=
  bif (decide (Ab<(Ac.length:Int))) then Qhb fu k3 Af Ag Ac Ad Aa Ab Ae else bif (decide (Ae<(Ad.length:Int))) then Qhb fu k3 Af Ag Ac Ad Aa Ab Ae else some (Aa)
def Qcq (fu:Nat)  (Aa:List Int) (Ad:Bool) (Ac:(List Int)) (Ab:(List Int)):Nat→List Int→Int→Int→Option ((List Int))
  | 0=>λ_ _ _=>none
  | n+1=>Qkq fu Aa Ad Ac Ab (Qcq fu Aa Ad Ac Ab n)
def Qqx (fu:Nat) (self:List Int→List Int→Bool→Option ((List Int))) (Ab:List Int) (Aa:List Int) (Ac:Bool):Option ((List Int)) :=
  bif (decide ((Aa.length:Int)<2)) then Qac (Qfi 8 (([]:List Int)) Aa) λAe=>some (Ae) else Qac (sls Aa 0 (w64 (Int.tdiv (Aa.length:Int) 2))) λAf=>Qac (self Ab Af Ac) λAg=>Qac (sls Aa (w64 (Int.tdiv (Aa.length:Int) 2)) (Aa.length:Int)) λAd=>Qac (self Ab Ad Ac) λAh=>Qcq fu Ab Ac Ag Ah fu (([]:List Int)) 0 0
def Qhy (fu:Nat):Nat→List Int→List Int→Bool→Option ((List Int))
  | 0=>λ_ _ _=>none
  | n+1=>Qqx fu (Qhy fu n)
def Qo2 (fu:Nat) (Aa:List Int) (Ab:List Int) (Ac:Bool):Option ((List Int)):=Qhy fu fu Aa Ab Ac
def Qod (fu:Nat) (Aa:List Int):Option ((List Int)) :=
  Qac (Qi4 fu (Aa.length:Int)) λx5=>Qac (Qo2 fu Aa x5 false) λAb=>some (Ab)
def Qlv (fu:Nat) (Aa:Int) (h2:Int) (d3:Int):Option ((List Int)) :=
  Qac (Qod fu (([Aa,h2,d3]:List Int))) λx9=>Qac (ix x9 0) λAb=>Qac (ix (([Aa,h2,d3]:List Int)) Ab) λAf=>Qac (ix x9 1) λAg=>Qac (ix (([Aa,h2,d3]:List Int)) Ag) λAc=>Qac (ix x9 2) λAd=>Qac (ix (([Aa,h2,d3]:List Int)) Ad) λAe=>some (([Af,Ac,Ae]:List Int))
def Qqy (fu:Nat) (x1:Item) (t2:Typ):Option (Bool) :=
  Qac (Qlv fu x1.fW x1.fH x1.fD) λAb=>Qac (Qlv fu t2.fW t2.fH t2.fD) λAa=>Qac (ix Ab 0) λAf=>Qac (ix Aa 0) λAd=>bif (decide (Af≤Ad)) then Qac (ix Ab 1) λAg=>Qac (ix Aa 1) λAc=>bif (decide (Ag≤Ac)) then Qac (ix Ab 2) λAh=>Qac (ix Aa 2) λAe=>bif (decide (Ah≤Ae)) then some (decide (x1.fQ≤t2.fQ)) else some (false) else some (false) else some (false)
def Qqb (fu:Nat) (k4:Int→Option (Int)) (Aa:Int)  : Option (Int) :=
  k4 (w64 (Aa+1))
def Qn4 (fu:Nat)  (r1:Request) (k4:Int→Option (Int)) (Ab:Int):Option (Int) :=
  bif (decide (Ab<(r1.fG.length:Int))) then Qac (ix r1.fG Ab) λAa=>bif (decide (Aa.fW>r1.fJ.fW)) then some (6) else bif (decide (Aa.fD>r1.fJ.fD)) then some (6) else bif (decide (Aa.fH>r1.fJ.fH)) then some (6) else bif (decide ((w64 (Aa.fO+Aa.fQ))>r1.fJ.fQ)) then some (6) else Qqb fu k4 Ab else some (0)
def Qfp (fu:Nat)  (r1:Request):Nat→Int→Option (Int)
  | 0=>λ_=>none
  | n+1=>Qn4 fu r1 (Qfp fu r1 n)
def Qn0 (fu:Nat)  (r1:Request) (Ac:Typ×Bool) (k1:Int→Option (Int)) (Aa:Int):Option (Int) :=
  bif (decide (Aa<(r1.fV.length:Int))) then Qac (ix r1.fV Aa) λAb=>Qac (Qqy fu Ab Ac.1) λAd=>bif (!Ad) then some (5) else k1 (w64 (Aa+1)) else Qfp fu r1 fu 0
def Qgu (fu:Nat)  (r1:Request) (Aa:Typ×Bool):Nat→Int→Option (Int)
  | 0=>λ_=>none
  | n+1=>Qn0 fu r1 Aa (Qgu fu r1 Aa n)
def Qe5 (fu:Nat) (r1:Request):Option (Int) :=
  Qac (Qni fu r1) λAb=>bif (!Ab) then some (2) else Qac (Qoz fu r1) λAa=>bif (!Aa) then some (3) else Qac (Qoo fu r1.fR r1.fU) λAc=>bif (!Ac) then some (4) else Qac (Qgx fu r1) λAd=>Qgu fu r1 Ad fu 0
def Qo1 (fu:Nat) (Aa:ByteArray):Option (Int) :=
  Qac (Qhw fu Aa) λx2=>bif (decide (x2.2≥0)) then some (1) else Qac (Qe5 fu x2.1) λAb=>some (Ab)
def Qjn (fu:Nat) (Ac:List Int→Int→Option ((List Int))) (Aa:Int) (Ab:List Int):Option ((List Int)) :=
  Ac Ab (w64 (Aa+1))
def Qjh (fu:Nat) (Aa:Bool→Int→Option ((List Int))) (Ab:Int) (Ac:Bool):Option ((List Int)) :=
  Aa Ac (w64 (Ab+1))
def Qk9 (fu:Nat) (Af:List Int→Int→Option ((List Int))) (r1:Request) (Ae:List Int) (Aa:Int) (Ac:Bool→Int→Option ((List Int))) (Ad:Bool) (Ab:Int):Option ((List Int)) :=
  bif (decide (Ab<(r1.fV.length:Int))) then bif Ad then Qjh fu Ac Ab true else Qac (ix r1.fV Ab) λAh=>Qjh fu Ac Ab (Ah.fM==Aa) else bif Ad then Qac (Qfi 8 Ae (([Aa]:List Int))) λAg=>Qjn fu Af Aa Ag else Qjn fu Af Aa Ae
def Qd9 (fu:Nat) (Ac:List Int→Int→Option ((List Int))) (r1:Request) (Aa:List Int) (Ab:Int):Nat→Bool→Int→Option ((List Int))
  | 0=>λ_ _=>none
  | n+1=>Qk9 fu Ac r1 Aa Ab (Qd9 fu Ac r1 Aa Ab n)
def Qk2 (fu:Nat)  (r1:Request) (Ac:List Int→Int→Option ((List Int))) (Aa:List Int) (Ab:Int):Option ((List Int)) :=
  bif (decide (Ab<4)) then Qd9 fu Ac r1 Aa Ab fu false 0 else some (Aa)
def Qdi (fu:Nat)  (r1:Request):Nat→List Int→Int→Option ((List Int))
  | 0=>λ_ _=>none
  | n+1=>Qk2 fu r1 (Qdi fu r1 n)
def Qo9 (fu:Nat) (r1:Request):Option ((List Int)) :=
  Qac (Qe5 fu r1) λAa=>bif (Aa != 0) then some (([]:List Int)) else Qdi fu r1 fu (([]:List Int)) 0
def Qoe (fu:Nat)  (Ab:List Int) (x5:Int) (k1:Int→Option (Bool)) (Aa:Int):Option (Bool) :=
  bif (decide (Aa<(Ab.length:Int))) then Qac (ix Ab Aa) λAc=>bif (Ac==x5) then some (true) else k1 (w64 (Aa+1)) else some (false)
def Qhe (fu:Nat)  (Aa:List Int) (x5:Int):Nat→Int→Option (Bool)
  | 0=>λ_=>none
  | n+1=>Qoe fu Aa x5 (Qhe fu Aa x5 n)
def Qpu (fu:Nat) (Aa:List Int) (x5:Int):Option (Bool) :=
  Qhe fu Aa x5 fu 0
def Qnp (fu:Nat) (k3:Int→Option (Bool)) (Aa:Int)  : Option (Bool) :=
  k3 (w64 (Aa+1))
def Qk3 (fu:Nat)  (Ad:List Pair) (Ab:List Int) (Ac:Int) (k3:Int→Option (Bool)) (Aa:Int):Option (Bool) :=
  bif (decide (Aa<(Ab.length:Int))) then Qac (ix Ab Aa) λAe=>Qac (Qfm fu Ad Ae Ac) λAf=>bif (!Af) then some (false) else Qac (ix Ab Aa) λAh=>Qac (Qfm fu Ad Ac Ae) λAg=>bif (!Ag) then some (false) else Qnp fu k3 Aa else some (true)
def Qff (fu:Nat)  (Aa:List Pair) (Ab:List Int) (Ac:Int):Nat→Int→Option (Bool)
  | 0=>λ_=>none
  | n+1=>Qk3 fu Aa Ab Ac (Qff fu Aa Ab Ac n)
def Qo4 (fu:Nat) (Aa:List Pair) (Ab:List Int) (Ac:Int):Option (Bool) :=
  Qff fu Aa Ab Ac fu 0
def Qg0 (fu:Nat) (Ac:List (List Int)→Int→Option ((List (List Int)))) (Aa:Int) (Ab:List (List Int)):Option ((List (List Int))) :=
  Ac Ab (w64 (Aa+1))
def Qln (fu:Nat) (Ab:Int→Int→Option ((List (List Int)))) (Ac:Int) (Aa:Int):Option ((List (List Int))) :=
  Ab Aa (w64 (Ac - 1))
def Qmi (fu:Nat) (Af:List (List Int)→Int→Option ((List (List Int)))) (Ah:List Pair) (Ac:List (List Int)) (Ad:Int) (Ae:Int→Int→Option ((List (List Int)))) (Ab:Int) (Aa:Int):Option ((List (List Int))) :=
  bif (decide (Aa≥0)) then Qac (ix Ac Aa) λAl=>Qac (Qo4 fu Ah Al Ad) λAj=>bif Aj then Qln fu Ae Aa Aa else Qln fu Ae Aa Ab else bif (decide (Ab<0)) then Qac (Qfi 24 Ac [([Ad]:List Int)]) λAg=>Qg0 fu Af Ad Ag else Qac (ix Ac Ab) λAi=>Qac (Qfi 8 Ai (([Ad]:List Int))) λAk=>Qac (ix Ac Ab) λAm=>Qg0 fu Af Ad (Qhn Ac Ab Ak)
def Qeq (fu:Nat) (Ad:List (List Int)→Int→Option ((List (List Int)))) (Aa:List Pair) (Ac:List (List Int)) (Ab:Int):Nat→Int→Int→Option ((List (List Int)))
  | 0=>λ_ _=>none
  | n+1=>Qmi fu Ad Aa Ac Ab (Qeq fu Ad Aa Ac Ab n)
def Ql7 (fu:Nat)  (Ad:List Pair) (Ae:List Int) (Ac:List (List Int)→Int→Option ((List (List Int)))) (Aa:List (List Int)) (Ab:Int):Option ((List (List Int))) :=
  bif (decide (Ab<4)) then Qac (Qpu fu Ae Ab) λAf=>bif (!Af) then Qg0 fu Ac Ab Aa else Qeq fu Ac Ad Aa Ab fu ((-1)) (w64 ((Aa.length:Int) - 1)) else some (Aa)
def Qd4 (fu:Nat)  (Ab:List Pair) (Aa:List Int):Nat→List (List Int)→Int→Option ((List (List Int)))
  | 0=>λ_ _=>none
  | n+1=>Ql7 fu Ab Aa (Qd4 fu Ab Aa n)
def Qp6 (fu:Nat) (Ab:List Pair) (Aa:List Int):Option ((List (List Int))) :=
  Qd4 fu Ab Aa fu (([]:List (List Int))) 0
def Qhl (fu:Nat) (r1:Request):Option ((List (List Int))) :=
  Qac (Qo9 fu r1) λAb=>Qac (Qp6 fu r1.fR Ab) λAa=>some (Aa)
def Qkt (fu:Nat) (k3:List Int→Int→Option ((List Int))) (r1:Request) (Aa:Int) (k4:List Int→Int→Option ((List Int))) (Ab:List Int) (Ac:Int):Option ((List Int)) :=
  Qac (ix r1.fV Aa) λAd=>bif (decide (Ac<Ad.fF)) then Qac (Qfi 8 Ab (([Aa]:List Int))) λAe=>k4 Ae (w64 (Ac+1)) else k3 Ab (w64 (Aa+1))
def Qgg (fu:Nat) (k3:List Int→Int→Option ((List Int))) (r1:Request) (Aa:Int):Nat→List Int→Int→Option ((List Int))
  | 0=>λ_ _=>none
  | n+1=>Qkt fu k3 r1 Aa (Qgg fu k3 r1 Aa n)
def Qkk (fu:Nat)  (r1:Request) (k3:List Int→Int→Option ((List Int))) (Aa:List Int) (Ab:Int):Option ((List Int)) :=
  bif (decide (Ab<(r1.fV.length:Int))) then Qgg fu k3 r1 Ab fu Aa 0 else some (Aa)
def Qef (fu:Nat)  (r1:Request):Nat→List Int→Int→Option ((List Int))
  | 0=>λ_ _=>none
  | n+1=>Qkk fu r1 (Qef fu r1 n)
def Qc4 (fu:Nat) (r1:Request):Option ((List Int)) :=
  Qef fu r1 fu (([]:List Int)) 0
def Qi2 (fu:Nat) (k3:List Int→Int→Option ((List Int))) (Aa:Int) (Ab:List Int):Option ((List Int)) :=
  k3 Ab (w64 (Aa+1))
def Qkv (fu:Nat)  (r1:Request) (Ae:Int) (Ai:(List (List Int))) (Ac:(List Int)) (k3:List Int→Int→Option ((List Int))) (Ab:List Int) (Aa:Int):Option ((List Int)) :=
  bif (decide (Aa<(Ac.length:Int))) then Qac (ix Ai Ae) λAg=>Qac (ix Ac Aa) λAj=>Qac (ix r1.fV Aj) λAd=>Qac (Qpu fu Ag Ad.fM) λAh=>bif Ah then Qac (Qfi 8 Ab (([Aa]:List Int))) λAf=>Qi2 fu k3 Aa Af else Qi2 fu k3 Aa Ab else some (Ab)
def Qfe (fu:Nat)  (r1:Request) (Aa:Int) (Ac:(List (List Int))) (Ab:(List Int)):Nat→List Int→Int→Option ((List Int))
  | 0=>λ_ _=>none
  | n+1=>Qkv fu r1 Aa Ac Ab (Qfe fu r1 Aa Ac Ab n)
def Qop (fu:Nat) (r1:Request) (Aa:Int):Option ((List Int)) :=
  Qac (Qhl fu r1) λAb=>Qac (Qau fu Aa 0 (w64 ((Ab.length:Int) - 1))) λAc=>bif (!Ac) then some (([]:List Int)) else Qac (Qc4 fu r1) λAd=>Qfe fu r1 Aa Ab Ad fu (([]:List Int)) 0
def Qjo (fu:Nat) (k3:List Int→Int→Option ((List Int))) (Ab:Int) (Aa:List Int):Option ((List Int)) :=
  k3 Aa (w64 (Ab+1))
def Qk4 (fu:Nat)  (Ae:List Int) (Ab:List Int) (k3:List Int→Int→Option ((List Int))) (Ac:List Int) (Aa:Int):Option ((List Int)) :=
  bif (decide (Aa<(Ab.length:Int))) then Qac (ix Ab Aa) λAd=>Qac (Qau fu Ad 0 (w64 ((Ae.length:Int) - 1))) λAg=>bif Ag then Qac (ix Ab Aa) λAh=>Qac (Qfi 8 Ac (([Ad]:List Int))) λAf=>Qjo fu k3 Aa Af else Qjo fu k3 Aa Ac else some (Ac)
def Qfc (fu:Nat)  (Aa:List Int) (Ab:List Int):Nat→List Int→Int→Option ((List Int))
  | 0=>λ_ _=>none
  | n+1=>Qk4 fu Aa Ab (Qfc fu Aa Ab n)
def Ql0 (fu:Nat) (Aa:List Int) (Ab:List Int):Option ((List Int)) :=
  Qfc fu Aa Ab fu (([]:List Int)) 0
def Qk1 (fu:Nat) (r1:Request) (Aa:List Int) (u9:Int):Option (Item×Bool) :=
  Qac (Qau fu u9 0 (w64 ((Aa.length:Int) - 1))) λAc=>bif (!Ac) then some ((⟨0,0,0,0,0,0,0⟩:Item),false) else Qac (ix Aa u9) λAb=>Qac (ix r1.fV Ab) λAd=>some (Ad,true)
def Qpe (fu:Nat) (Aa:Int) (h2:Int) (d3:Int)  : Option (Int) :=
  some (w64 ((w64 (Aa*h2))*d3))
def Qj5 (fu:Nat) (Aa:Int) (h2:Int) (d3:Int):Option (Int) :=
  Qac (Qau fu Aa 0 2000) λAd=>bif (!Ad) then some (0) else Qac (Qau fu h2 0 2000) λAc=>bif (!Ac) then some (0) else Qac (Qau fu d3 0 2000) λAb=>bif (!Ab) then some (0) else Qpe fu Aa h2 d3
def Qq3 (fu:Nat) (k7:L7→Int→Option (L7)) (Ab:Int) (Aa:L7):Option (L7) :=
  k7 Aa (w64 (Ab+1))
def Qq1 (fu:Nat) (k7:L7→Int→Option (L7)) (Ab:L7) (Ad:Int) (Aa:Item):Option (L7) :=
  Qac (Qj5 fu Aa.fW Aa.fH Aa.fD) λAc=>Qq3 fu k7 Ad (⟨w64 (Ab.fvol+Ac),w64 (Ab.fgram+Aa.fQ)⟩:L7)
def Qpk (fu:Nat)  (r1:Request) (Ae:List Int) (Ac:List Int) (k7:L7→Int→Option (L7)) (Ab:L7) (Aa:Int):Option (L7) :=
  bif (decide (Aa<(Ac.length:Int))) then Qac (ix Ac Aa) λAd=>Qac (Qk1 fu r1 Ae Ad) λAf=>Qq1 fu k7 Ab Aa Af.1 else some (Ab)
def Qgp (fu:Nat)  (r1:Request) (Aa:List Int) (Ab:List Int):Nat→L7→Int→Option (L7)
  | 0=>λ_ _=>none
  | n+1=>Qpk fu r1 Aa Ab (Qgp fu r1 Aa Ab n)
def Qpt (fu:Nat) (r1:Request) (Aa:List Int) (Ab:List Int):Option (L7) :=
  Qgp fu r1 Aa Ab fu (⟨0,0⟩:L7) 0
def Qpd (fu:Nat) (m9:Typ) (Aa:L7):Option (Bool) :=
  Qac (Qj5 fu m9.fW m9.fH m9.fD) λAb=>bif (decide (Aa.fvol≤Ab)) then some (decide (Aa.fgram≤m9.fQ)) else some (false)
def Qn9 (fu:Nat) (r1:Request) (Ad:List Int) (m9:Typ) (Ab:List Int) (Ac:Int):Option (Bool) :=
  Qac (Qfi 8 (([]:List Int)) Ab) λAe=>Qac (Qfi 8 Ae (([Ac]:List Int))) λAf=>Qac (Qpt fu r1 Ad Af) λAa=>Qpd fu m9 Aa
def Qhv (fu:Nat) (k3:List (List Int)→Int→Option ((List (List Int)))) (Aa:Int) (Ab:List (List Int)):Option ((List (List Int))) :=
  k3 Ab (w64 (Aa+1))
def Qmb (fu:Nat)  (r1:Request) (Ac:List Int) (Al:Typ×Bool) (Aj:(List Int)) (k3:List (List Int)→Int→Option ((List (List Int)))) (Aa:List (List Int)) (Ab:Int):Option ((List (List Int))) :=
  bif (decide (Ab<(Ac.length:Int))) then bif (decide ((Aa.length:Int)>0)) then Qac (ix Aa (w64 ((Aa.length:Int) - 1))) λAe=>Qac (ix Ac Ab) λAd=>Qac (Qn9 fu r1 Aj Al.1 Ae Ad) λAk=>bif Ak then Qac (ix Aa (w64 ((Aa.length:Int) - 1))) λAq=>Qac (ix Ac Ab) λAo=>Qac (Qfi 8 Ae (([Ad]:List Int))) λAg=>Qac (ix Aa (w64 ((Aa.length:Int) - 1))) λAp=>Qhv fu k3 Ab (Qhn Aa (w64 ((Aa.length:Int) - 1)) Ag) else Qac (ix Ac Ab) λAm=>Qac (Qfi 24 Aa [([Ad]:List Int)]) λAi=>Qhv fu k3 Ab Ai else Qac (ix Ac Ab) λAh=>Qac (Qfi 24 Aa [([Ah]:List Int)]) λAf=>Qhv fu k3 Ab Af else some (Aa)
def Qfw (fu:Nat)  (r1:Request) (Ab:List Int) (Ac:Typ×Bool) (Aa:(List Int)):Nat→List (List Int)→Int→Option ((List (List Int)))
  | 0=>λ_ _=>none
  | n+1=>Qmb fu r1 Ab Ac Aa (Qfw fu r1 Ab Ac Aa n)
def Qrs (fu:Nat) (r1:Request) (Ab:List Int):Option ((List (List Int))) :=
  Qac (Qgx fu r1) λAc=>Qac (Qc4 fu r1) λAa=>Qfw fu r1 Ab Ac Aa fu (([]:List (List Int))) 0
def Qo0 (fu:Nat) (r1:Request) (Aa:List Int):Option ((List (List Int))) :=
  Qac (Qe5 fu r1) λAe=>bif (Ae != 0) then some (([]:List (List Int))) else Qac (Qc4 fu r1) λAb=>Qac (Ql0 fu Ab Aa) λAd=>Qac (Qrs fu r1 Ad) λAc=>some (Ac)
def Qgs (fu:Nat) (Aa:List Int):Option ((List Int)) :=
  Qac (Qi4 fu (Aa.length:Int)) λx5=>Qac (Qo2 fu Aa x5 true) λAb=>some (Ab)
def Qjl (fu:Nat) (Aa:List (List Int)→Int→Option ((List (List Int)))) (Ac:Int) (Ab:List (List Int)):Option ((List (List Int))) :=
  Aa Ab (w64 (Ac+1))
def Qjk (fu:Nat) (Ab:Int→Int→Option ((List (List Int)))) (Ac:Int) (Aa:Int):Option ((List (List Int))) :=
  Ab Aa (w64 (Ac - 1))
def Qkr (fu:Nat) (Ae:List (List Int)→Int→Option ((List (List Int)))) (r1:Request) (Am:Typ×Bool) (Ak:(List Int)) (Ab:List (List Int)) (Af:Int) (Ad:Int) (Ag:Int→Int→Option ((List (List Int)))) (Aa:Int) (Ac:Int):Option ((List (List Int))) :=
  bif (decide (Ac≥0)) then Qac (ix Ab Ac) λAi=>Qac (Qn9 fu r1 Ak Am.1 Ai Ad) λAo=>bif Ao then Qjk fu Ag Ac Ac else Qjk fu Ag Ac Aa else bif (decide (Aa<0)) then Qac (Qfi 24 Ab [([Ad]:List Int)]) λAj=>Qjl fu Ae Af Aj else Qac (ix Ab Aa) λAh=>Qac (Qfi 8 Ah (([Ad]:List Int))) λAl=>Qac (ix Ab Aa) λAp=>Qjl fu Ae Af (Qhn Ab Aa Al)
def Qe3 (fu:Nat) (Ac:List (List Int)→Int→Option ((List (List Int)))) (r1:Request) (Af:Typ×Bool) (Ad:(List Int)) (Ab:List (List Int)) (Ae:Int) (Aa:Int):Nat→Int→Int→Option ((List (List Int)))
  | 0=>λ_ _=>none
  | n+1=>Qkr fu Ac r1 Af Ad Ab Ae Aa (Qe3 fu Ac r1 Af Ad Ab Ae Aa n)
def Qkn (fu:Nat)  (r1:Request) (Af:List Int) (Ah:Typ×Bool) (Ag:(List Int)) (Ac:(List Int)) (Ae:List (List Int)→Int→Option ((List (List Int)))) (Aa:List (List Int)) (Ab:Int):Option ((List (List Int))) :=
  bif (decide (Ab<(Ac.length:Int))) then Qac (ix Ac Ab) λAi=>Qac (ix Af Ai) λAd=>Qe3 fu Ae r1 Ah Ag Aa Ab Ad fu ((-1)) (w64 ((Aa.length:Int) - 1)) else some (Aa)
def Qcp (fu:Nat)  (r1:Request) (Ac:List Int) (Ad:Typ×Bool) (Aa:(List Int)) (Ab:(List Int)):Nat→List (List Int)→Int→Option ((List (List Int)))
  | 0=>λ_ _=>none
  | n+1=>Qkn fu r1 Ac Ad Aa Ab (Qcp fu r1 Ac Ad Aa Ab n)
def Qkc (fu:Nat)  (r1:Request) (Ab:List Int) (Ah:Typ×Bool) (Ad:(List Int)) (k1:List Int→Int→Option ((List (List Int)))) (Ac:List Int) (Aa:Int):Option ((List (List Int))) :=
  bif (decide (Aa<(Ab.length:Int))) then Qac (sls Ab Aa (w64 (Aa+1))) λAe=>Qac (Qpt fu r1 Ad Ae) λAi=>Qac (Qfi 8 Ac (([Ai.fvol]:List Int))) λAg=>k1 Ag (w64 (Aa+1)) else Qac (Qgs fu Ac) λAf=>Qcp fu r1 Ab Ah Ad Af fu (([]:List (List Int))) 0
def Qgi (fu:Nat)  (r1:Request) (Ab:List Int) (Ac:Typ×Bool) (Aa:(List Int)):Nat→List Int→Int→Option ((List (List Int)))
  | 0=>λ_ _=>none
  | n+1=>Qkc fu r1 Ab Ac Aa (Qgi fu r1 Ab Ac Aa n)
def Qq5 (fu:Nat) (r1:Request) (Ab:List Int):Option ((List (List Int))) :=
  Qac (Qgx fu r1) λAc=>Qac (Qc4 fu r1) λAa=>Qgi fu r1 Ab Ac Aa fu (([]:List Int)) 0
def Qna (fu:Nat) (r1:Request) (Aa:List Int):Option ((List (List Int))) :=
  Qac (Qe5 fu r1) λAe=>bif (Ae != 0) then some (([]:List (List Int))) else Qac (Qc4 fu r1) λAb=>Qac (Ql0 fu Ab Aa) λAd=>Qac (Qq5 fu r1 Ad) λAc=>some (Ac)
def Qo5 (fu:Nat) (r1:Request) (Aa:List Int):Option ((List (List Int))) :=
  bif (r1.ff==1) then Qac (Qo0 fu r1 Aa) λAb=>some (Ab) else Qac (Qna fu r1 Aa) λAc=>some (Ac)
def Qqq (fu:Nat) (r1:Request) (Ad:List Int) (t9:Typ) (Ab:(List Int))  : Option (Bool) :=
  Qac (Qpt fu r1 Ab Ad) λAa=>Qac (Qj5 fu t9.fW t9.fH t9.fD) λAc=>bif (decide (Aa.fvol≤Ac)) then some (decide (Aa.fgram≤t9.fQ)) else some (false)
def Qqm (fu:Nat) (Aa:Int→Option (Bool)) (Ab:Int)  : Option (Bool) :=
  Aa (w64 (Ab+1))
def Qqk (fu:Nat) (Ad:Int→Option (Bool)) (t9:Typ) (Ab:Int) (Ac:Item) (Aa:Bool):Option (Bool) :=
  bif (!Aa) then some (false) else Qac (Qqy fu Ac t9) λAe=>bif (!Ae) then some (false) else Qqm fu Ad Ab
def Qoa (fu:Nat)  (r1:Request) (Ab:List Int) (t9:Typ) (Ac:(List Int)) (Af:Int→Option (Bool)) (Aa:Int):Option (Bool) :=
  bif (decide (Aa<(Ab.length:Int))) then Qac (ix Ab Aa) λAe=>Qac (Qk1 fu r1 Ac Ae) λAd=>Qqk fu Af t9 Aa Ad.1 Ad.2 else Qqq fu r1 Ab t9 Ac
def Qfo (fu:Nat)  (r1:Request) (Ab:List Int) (t9:Typ) (Aa:(List Int)):Nat→Int→Option (Bool)
  | 0=>λ_=>none
  | n+1=>Qoa fu r1 Ab t9 Aa (Qfo fu r1 Ab t9 Aa n)
def Qrb (fu:Nat) (r1:Request) (Ac:List Int) (t9:Typ):Option (Bool) :=
  Qac (Qe5 fu r1) λAb=>bif (Ab != 0) then some (false) else Qac (Qc4 fu r1) λAa=>Qfo fu r1 Ac t9 Aa fu 0
def Qdt (fu:Nat) (k3:Typ→Bool→Int→Option (Typ×Bool)) (Ac:Int) (Aa:Typ) (Ab:Bool):Option (Typ×Bool) :=
  k3 Aa Ab (w64 (Ac+1))
def Qis (fu:Nat)  (r1:Request) (Ae:List Int) (k3:Typ→Bool→Int→Option (Typ×Bool)) (Ab:Typ) (Ad:Bool) (Aa:Int):Option (Typ×Bool) :=
  bif (decide (Aa<(r1.fG.length:Int))) then Qac (ix r1.fG Aa) λAc=>Qac (Qrb fu r1 Ae Ac) λAf=>bif (!Af) then Qdt fu k3 Aa Ab Ad else bif (!Ad) then Qdt fu k3 Aa Ac true else bif (decide (Ac.fL<Ab.fL)) then Qdt fu k3 Aa Ac true else bif (Ac.fL==Ab.fL) then bif (decide (Ac.f8<Ab.f8)) then Qdt fu k3 Aa Ac true else Qdt fu k3 Aa Ab Ad else Qdt fu k3 Aa Ab Ad else some (Ab,Ad)
def Qeh (fu:Nat)  (r1:Request) (Aa:List Int):Nat→Typ→Bool→Int→Option (Typ×Bool)
  | 0=>λ_ _ _=>none
  | n+1=>Qis fu r1 Aa (Qeh fu r1 Aa n)
def Qm3 (fu:Nat) (r1:Request) (Aa:List Int):Option (Typ×Bool) :=
  Qeh fu r1 Aa fu (⟨0,0,0,0,0,0,0⟩:Typ) false 0
def Qj1 (fu:Nat) (Ac:List Carton→Int→Option ((List Carton))) (Ab:Int) (Aa:List Carton):Option ((List Carton)) :=
  Ac Aa (w64 (Ab+1))
def Qhi (fu:Nat) (Ac:List Carton→Int→Option ((List Carton))) (Ab:Int) (Aa:List Carton):Option ((List Carton)) :=
  Ac Aa (w64 (Ab+1))
def Qh6 (fu:Nat) (Ap:List Carton→Int→Option ((List Carton))) (Ak:Int) (Al:(List (List Int))) (Am:List Carton) (Ab:Int) (Af:Typ) (Ad:(List Int)) (Ae:List Int→Int→Option ((List Carton))) (Ac:List Int) (Aa:Int):Option ((List Carton)) :=
  bif (decide (Aa<(Ad.length:Int))) then Qac (ix Al Ab) λAi=>Qac (ix Ad Aa) λAh=>Qac (ix Ai Ah) λAj=>Qac (Qfi 8 Ac (([Aj]:List Int))) λAo=>Ae Ao (w64 (Aa+1)) else Qac (Qfi 40 Am [(⟨Af.f8,Ak,Ac⟩:Carton)]) λAg=>Qhi fu Ap Ab Ag
def Qex (fu:Nat) (Ag:List Carton→Int→Option ((List Carton))) (Ad:Int) (Ae:(List (List Int))) (Af:List Carton) (Aa:Int) (Ab:Typ) (Ac:(List Int)):Nat→List Int→Int→Option ((List Carton))
  | 0=>λ_ _=>none
  | n+1=>Qh6 fu Ag Ad Ae Af Aa Ab Ac (Qex fu Ag Ad Ae Af Aa Ab Ac n)
def Qku (fu:Nat) (Ah:List Carton→Int→Option ((List Carton))) (Ae:Int) (Ab:(List (List Int))) (Af:List Carton) (Aa:Int) (Ac:Typ):Option ((List Carton)) :=
  Qac (ix Ab Aa) λAg=>Qac (Qod fu Ag) λAd=>Qex fu Ah Ae Ab Af Aa Ac Ad fu (([]:List Int)) 0
def Qib (fu:Nat) (Ae:List Carton→Int→Option ((List Carton))) (r1:Request) (Ac:Int) (Ab:(List (List Int))) (Ah:List Carton→Int→Option ((List Carton))) (Ad:List Carton) (Aa:Int):Option ((List Carton)) :=
  bif (decide (Aa<(Ab.length:Int))) then Qac (ix Ab Aa) λAf=>Qac (Qm3 fu r1 Af) λAg=>Qku fu Ah Ac Ab Ad Aa Ag.1 else Qj1 fu Ae Ac Ad
def Qb6 (fu:Nat) (Ab:List Carton→Int→Option ((List Carton))) (r1:Request) (Aa:Int) (Ac:(List (List Int))):Nat→List Carton→Int→Option ((List Carton))
  | 0=>λ_ _=>none
  | n+1=>Qib fu Ab r1 Aa Ac (Qb6 fu Ab r1 Aa Ac n)
def Qif (fu:Nat)  (r1:Request) (Ae:(List (List Int))) (Ac:List Carton→Int→Option ((List Carton))) (Ab:List Carton) (Aa:Int):Option ((List Carton)) :=
  bif (decide (Aa<(Ae.length:Int))) then Qac (Qop fu r1 Aa) λAd=>Qac (Qo5 fu r1 Ad) λAf=>Qb6 fu Ac r1 Aa Af fu Ab 0 else some (Ab)
def Qbe (fu:Nat)  (r1:Request) (Aa:(List (List Int))):Nat→List Carton→Int→Option ((List Carton))
  | 0=>λ_ _=>none
  | n+1=>Qif fu r1 Aa (Qbe fu r1 Aa n)
def Qle (fu:Nat) (r1:Request):Option ((List Carton)) :=
  Qac (Qhl fu r1) λAa=>Qbe fu r1 Aa fu (([]:List Carton)) 0
def Qim (fu:Nat)  (r1:Request) (Ac:Int) (k1:Int→Option (Typ×Bool)) (Aa:Int):Option (Typ×Bool) :=
  bif (decide (Aa<(r1.fG.length:Int))) then Qac (ix r1.fG Aa) λAb=>bif (Ab.f8==Ac) then Qac (ix r1.fG Aa) λAd=>some (Ab,true) else k1 (w64 (Aa+1)) else some ((⟨0,0,0,0,0,0,0⟩:Typ),false)
def Qfq (fu:Nat)  (r1:Request) (Aa:Int):Nat→Int→Option (Typ×Bool)
  | 0=>λ_=>none
  | n+1=>Qim fu r1 Aa (Qfq fu r1 Aa n)
def Qjc (fu:Nat) (r1:Request) (Aa:Int):Option (Typ×Bool) :=
  Qfq fu r1 Aa fu 0
def Qrd (fu:Nat) (r1:Request):Option ((List Int)) :=
  Qac (Qe5 fu r1) λAa=>bif (Aa != 0) then some (([]:List Int)) else Qac (Qc4 fu r1) λAb=>some (Ab)
def Qpj (fu:Nat) (k7:Int→Int→Option (Int)) (Aa:Int) (Ab:Int):Option (Int) :=
  k7 Ab (w64 (Aa+1))
def Qpp (fu:Nat) (k7:Int→Int→Option (Int)) (Ab:Int) (Ac:Int) (Aa:Item):Option (Int) :=
  Qpj fu k7 Ac (w64 (Ab+Aa.fQ))
def Qmn (fu:Nat)  (r1:Request) (Ac:List Int) (Ae:(List Int)) (k7:Int→Int→Option (Int)) (Ab:Int) (Aa:Int):Option (Int) :=
  bif (decide (Aa<(Ac.length:Int))) then Qac (ix Ac Aa) λAf=>Qac (Qk1 fu r1 Ae Af) λAd=>Qpp fu k7 Ab Aa Ad.1 else some (Ab)
def Qer (fu:Nat)  (r1:Request) (Aa:List Int) (Ab:(List Int)):Nat→Int→Int→Option (Int)
  | 0=>λ_ _=>none
  | n+1=>Qmn fu r1 Aa Ab (Qer fu r1 Aa Ab n)
def Qqd (fu:Nat) (r1:Request) (Aa:List Int):Option (Int) :=
  Qac (Qrd fu r1) λAb=>Qer fu r1 Aa Ab fu 0 0
def Qqh (fu:Nat) (r1:Request) (x5:Carton) (Ab:Typ×Bool)  : Option (Int) :=
  Qac (Qqd fu r1 x5.f9) λAa=>some (w64 (Ab.1.fO+Aa))
def Qre (fu:Nat) (r1:Request) (x5:Carton):Option (Int) :=
  Qac (Qjc fu r1 x5.fe) λAa=>Qac (Qe5 fu r1) λAb=>bif (Ab != 0) then some (0) else bif (!Aa.2) then some (0) else Qqh fu r1 x5 Aa
def Qp4 (fu:Nat) (r1:Request) (x5:Carton) (Aa:Typ×Bool)  : Option (Box) :=
  Qac (Qre fu r1 x5) λAb=>some (⟨Aa.1.fW,Aa.1.fD,Aa.1.fH,Ab⟩:Box)
def Qq8 (fu:Nat) (r1:Request) (x5:Carton):Option (Box) :=
  Qac (Qjc fu r1 x5.fe) λAa=>Qac (Qe5 fu r1) λAb=>bif (Ab != 0) then some (⟨0,0,0,0⟩:Box) else bif (!Aa.2) then some (⟨0,0,0,0⟩:Box) else Qp4 fu r1 x5 Aa
def Qn2 (fu:Nat) (k3:Int→Option (Bool)) (Aa:Int)  : Option (Bool) :=
  k3 (w64 (Aa+1))
def Qki (fu:Nat)  (p1:Pallet) (Ac:List Box) (k3:Int→Option (Bool)) (Ab:Int):Option (Bool) :=
  bif (decide (Ab<(Ac.length:Int))) then Qac (ix Ac Ab) λAa=>Qac (Qau fu Aa.fW 1 p1.fW) λAd=>bif (!Ad) then some (false) else Qac (Qau fu Aa.fD 1 p1.fD) λAe=>bif (!Ae) then some (false) else Qac (Qau fu Aa.fH 1 p1.fH) λAg=>bif (!Ag) then some (false) else Qac (Qau fu Aa.fQ 1 p1.fQ) λAf=>bif (!Af) then some (false) else Qn2 fu k3 Ab else some (true)
def Qe4 (fu:Nat)  (p1:Pallet) (Aa:List Box):Nat→Int→Option (Bool)
  | 0=>λ_=>none
  | n+1=>Qki fu p1 Aa (Qe4 fu p1 Aa n)
def Qlz (fu:Nat) (p1:Pallet) (Ab:List Box):Option (Bool) :=
  Qac (Qgt fu p1) λAa=>bif (!Aa) then some (false) else Qe4 fu p1 Ab fu 0
def Qju (fu:Nat) (a1:Int) (b2:Int):Option (Int) :=
  bif (decide (a1>b2)) then some (a1) else some (b2)
def Qgq (fu:Nat) (Aa:Shelf) (Ab:Int) (b6:Box):Option (Shelf) :=
  Qac (Qfi 8 (([]:List Int)) Aa.f0) λAf=>Qac (Qfi 8 Af (([Ab]:List Int))) λAe=>Qac (Qju fu Aa.fD b6.fD) λAd=>Qac (Qju fu Aa.fH b6.fH) λAc=>some (⟨Ae,w64 (Aa.fW+b6.fW),Ad,Ac,w64 (Aa.fQ+b6.fQ)⟩:Shelf)
def Qgh (fu:Nat) (k4:List Shelf→Int→Option ((List Shelf))) (Ab:Int) (Aa:List Shelf):Option ((List Shelf)) :=
  k4 Aa (w64 (Ab+1))
def Qj8 (fu:Nat)  (p1:Pallet) (Ag:List Box) (Ad:(List Int)) (k4:List Shelf→Int→Option ((List Shelf))) (Aa:List Shelf) (Ab:Int):Option ((List Shelf)) :=
  bif (decide (Ab<(Ad.length:Int))) then Qac (ix Ad Ab) λAe=>Qac (ix Ag Ae) λAc=>bif (decide ((Aa.length:Int)>0)) then Qac (ix Aa (w64 ((Aa.length:Int) - 1))) λAf=>bif (decide ((w64 (Af.fW+Ac.fW))≤p1.fW)) then Qac (ix Aa (w64 ((Aa.length:Int) - 1))) λAv=>bif (decide ((w64 (Af.fQ+Ac.fQ))≤p1.fQ)) then Qac (ix Aa (w64 ((Aa.length:Int) - 1))) λAq=>Qac (ix Ad Ab) λAr=>Qac (Qgq fu Af Ae Ac) λAh=>Qac (ix Aa (w64 ((Aa.length:Int) - 1))) λAt=>Qgh fu k4 Ab (Qhn Aa (w64 ((Aa.length:Int) - 1)) Ah) else Qac (ix Ad Ab) λAp=>Qac (Qgq fu (⟨[],0,0,0,0⟩:Shelf) Ae Ac) λAj=>Qac (Qfi 56 Aa [Aj]) λAk=>Qgh fu k4 Ab Ak else Qac (ix Ad Ab) λAs=>Qac (Qgq fu (⟨[],0,0,0,0⟩:Shelf) Ae Ac) λAl=>Qac (Qfi 56 Aa [Al]) λAi=>Qgh fu k4 Ab Ai else Qac (ix Ad Ab) λAu=>Qac (Qgq fu (⟨[],0,0,0,0⟩:Shelf) Ae Ac) λAo=>Qac (Qfi 56 Aa [Ao]) λAm=>Qgh fu k4 Ab Am else some (Aa)
def Qd8 (fu:Nat)  (p1:Pallet) (Ab:List Box) (Aa:(List Int)):Nat→List Shelf→Int→Option ((List Shelf))
  | 0=>λ_ _=>none
  | n+1=>Qj8 fu p1 Ab Aa (Qd8 fu p1 Ab Aa n)
def Qkb (fu:Nat)  (p1:Pallet) (Aa:List Box) (k1:List Int→Int→Option ((List Shelf))) (Ac:List Int) (Ab:Int):Option ((List Shelf)) :=
  bif (decide (Ab<(Aa.length:Int))) then Qac (ix Aa Ab) λAd=>Qac (Qfi 8 Ac (([Ad.fD]:List Int))) λAf=>k1 Af (w64 (Ab+1)) else Qac (Qgs fu Ac) λAe=>Qd8 fu p1 Aa Ae fu (([]:List Shelf)) 0
def Qgn (fu:Nat)  (p1:Pallet) (Aa:List Box):Nat→List Int→Int→Option ((List Shelf))
  | 0=>λ_ _=>none
  | n+1=>Qkb fu p1 Aa (Qgn fu p1 Aa n)
def Qor (fu:Nat) (p1:Pallet) (Aa:List Box):Option ((List Shelf)) :=
  Qac (Qlz fu p1 Aa) λAb=>bif (!Ab) then some (([]:List Shelf)) else Qgn fu p1 Aa fu (([]:List Int)) 0
def Qpy (fu:Nat) (p1:Pallet) (d2:Int) (h3:Int) (Ac:Int):Option (Bool) :=
  Qac (Qau fu d2 1 p1.fD) λx8=>bif x8 then Qac (Qau fu h3 1 p1.fH) λAb=>bif Ab then Qac (Qau fu Ac 1 p1.fQ) λAa=>some (Aa) else some (false) else some (false)
def Qh5 (fu:Nat)  (p1:Pallet) (Ab:List Shelf) (k1:Int→Option (Bool)) (Aa:Int):Option (Bool) :=
  bif (decide (Aa<(Ab.length:Int))) then Qac (ix Ab Aa) λAc=>Qac (ix Ab Aa) λAf=>Qac (ix Ab Aa) λAe=>Qac (Qpy fu p1 Ac.fD Ac.fH Ac.fQ) λAd=>bif (!Ad) then some (false) else k1 (w64 (Aa+1)) else some (true)
def Qey (fu:Nat)  (p1:Pallet) (Aa:List Shelf):Nat→Int→Option (Bool)
  | 0=>λ_=>none
  | n+1=>Qh5 fu p1 Aa (Qey fu p1 Aa n)
def Qls (fu:Nat) (p1:Pallet) (Ab:List Shelf):Option (Bool) :=
  Qac (Qgt fu p1) λAa=>bif (!Aa) then some (false) else Qey fu p1 Ab fu 0
def Qmr (fu:Nat) (k7:List Layer→Int→Option ((List Layer))) (Aa:Int) (Ab:List Layer):Option ((List Layer)) :=
  k7 Ab (w64 (Aa+1))
def Qc6 (fu:Nat) (k7:List Layer→Int→Option ((List Layer))) (Ae:Int) (Ac:Shelf) (Ab:List Layer) (Ad:Int):Option ((List Layer)) :=
  Qac (ix Ab (w64 (Ad - 1))) λAa=>Qac (Qfi 8 (([]:List Int)) Aa.fP) λAh=>Qac (Qfi 8 Ah (([Ae]:List Int))) λAf=>Qac (Qju fu Aa.fH Ac.fH) λAg=>Qac (ix Ab (w64 (Ad - 1))) λAi=>Qmr fu k7 Ae (Qhn Ab (w64 (Ad - 1)) (⟨Af,w64 (Aa.fD+Ac.fD),Ag,w64 (Aa.fQ+Ac.fQ)⟩:Layer))
def Qik (fu:Nat)  (p1:Pallet) (Ad:List Shelf) (k7:List Layer→Int→Option ((List Layer))) (Aa:List Layer) (Ab:Int):Option ((List Layer)) :=
  bif (decide (Ab<(Ad.length:Int))) then Qac (ix Ad Ab) λAc=>bif ((Aa.length:Int)==0) then Qac (Qfi 48 Aa [(⟨[],0,0,0⟩:Layer)]) λAh=>Qc6 fu k7 Ab Ac Ah (w64 ((Aa.length:Int)+1)) else Qac (ix Aa (w64 ((Aa.length:Int) - 1))) λAe=>bif (decide ((w64 (Ae.fD+Ac.fD))>p1.fD)) then Qac (Qfi 48 Aa [(⟨[],0,0,0⟩:Layer)]) λAf=>Qc6 fu k7 Ab Ac Af (w64 ((Aa.length:Int)+1)) else Qac (ix Aa (w64 ((Aa.length:Int) - 1))) λAi=>bif (decide ((w64 (Ae.fQ+Ac.fQ))>p1.fQ)) then Qac (Qfi 48 Aa [(⟨[],0,0,0⟩:Layer)]) λAg=>Qc6 fu k7 Ab Ac Ag (w64 ((Aa.length:Int)+1)) else Qc6 fu k7 Ab Ac Aa (Aa.length:Int) else some (Aa)
def Qbj (fu:Nat)  (p1:Pallet) (Aa:List Shelf):Nat→List Layer→Int→Option ((List Layer))
  | 0=>λ_ _=>none
  | n+1=>Qik fu p1 Aa (Qbj fu p1 Aa n)
def Qm9 (fu:Nat) (p1:Pallet) (Aa:List Shelf):Option ((List Layer)) :=
  Qac (Qls fu p1 Aa) λAb=>bif (!Ab) then some (([]:List Layer)) else Qbj fu p1 Aa fu (([]:List Layer)) 0
def Qiy (fu:Nat)  (p1:Pallet) (Ab:List Layer) (k1:Int→Option (Bool)) (Aa:Int):Option (Bool) :=
  bif (decide (Aa<(Ab.length:Int))) then Qac (ix Ab Aa) λAc=>Qac (ix Ab Aa) λAf=>Qac (ix Ab Aa) λAe=>Qac (Qpy fu p1 Ac.fD Ac.fH Ac.fQ) λAd=>bif (!Ad) then some (false) else k1 (w64 (Aa+1)) else some (true)
def Qfv (fu:Nat)  (p1:Pallet) (Aa:List Layer):Nat→Int→Option (Bool)
  | 0=>λ_=>none
  | n+1=>Qiy fu p1 Aa (Qfv fu p1 Aa n)
def Qm6 (fu:Nat) (p1:Pallet) (Ab:List Layer):Option (Bool) :=
  Qac (Qgt fu p1) λAa=>bif (!Aa) then some (false) else Qfv fu p1 Ab fu 0
def Qn5 (fu:Nat) (k7:List Load→Int→Option ((List Load))) (Ab:Int) (Aa:List Load):Option ((List Load)) :=
  k7 Aa (w64 (Ab+1))
def Qdj (fu:Nat) (k7:List Load→Int→Option ((List Load))) (Ae:Int) (Ad:Layer) (Aa:List Load) (Ab:Int):Option ((List Load)) :=
  Qac (ix Aa (w64 (Ab - 1))) λAc=>Qac (Qfi 8 (([]:List Int)) Ac.fK) λAf=>Qac (Qfi 8 Af (([Ae]:List Int))) λAg=>Qac (ix Aa (w64 (Ab - 1))) λAh=>Qn5 fu k7 Ae (Qhn Aa (w64 (Ab - 1)) (⟨Ag,w64 (Ac.fH+Ad.fH),w64 (Ac.fQ+Ad.fQ)⟩:Load))
def Qjv (fu:Nat)  (p1:Pallet) (Ad:List Layer) (k7:List Load→Int→Option ((List Load))) (Aa:List Load) (Ab:Int):Option ((List Load)) :=
  bif (decide (Ab<(Ad.length:Int))) then Qac (ix Ad Ab) λAc=>bif ((Aa.length:Int)==0) then Qac (Qfi 40 Aa [(⟨[],0,0⟩:Load)]) λAf=>Qdj fu k7 Ab Ac Af (w64 ((Aa.length:Int)+1)) else Qac (ix Aa (w64 ((Aa.length:Int) - 1))) λAe=>bif (decide ((w64 (Ae.fH+Ac.fH))>p1.fH)) then Qac (Qfi 40 Aa [(⟨[],0,0⟩:Load)]) λAh=>Qdj fu k7 Ab Ac Ah (w64 ((Aa.length:Int)+1)) else Qac (ix Aa (w64 ((Aa.length:Int) - 1))) λAi=>bif (decide ((w64 (Ae.fQ+Ac.fQ))>p1.fQ)) then Qac (Qfi 40 Aa [(⟨[],0,0⟩:Load)]) λAg=>Qdj fu k7 Ab Ac Ag (w64 ((Aa.length:Int)+1)) else Qdj fu k7 Ab Ac Aa (Aa.length:Int) else some (Aa)
def Qbu (fu:Nat)  (p1:Pallet) (Aa:List Layer):Nat→List Load→Int→Option ((List Load))
  | 0=>λ_ _=>none
  | n+1=>Qjv fu p1 Aa (Qbu fu p1 Aa n)
def Qo8 (fu:Nat) (p1:Pallet) (Aa:List Layer):Option ((List Load)) :=
  Qac (Qm6 fu p1 Aa) λAb=>bif (!Ab) then some (([]:List Load)) else Qbu fu p1 Aa fu (([]:List Load)) 0
def Qkx (fu:Nat) (Am:List Spot→Int→Int→Option ((List Spot))) (Ak:List Box) (Ag:Int) (Al:Int) (Ae:Int) (Ah:Int) (Ab:Shelf) (Aj:List Spot→Int→Int→Option ((List Spot))) (Ac:List Spot) (Af:Int) (Aa:Int):Option ((List Spot)) :=
  bif (decide (Aa<(Ab.f0.length:Int))) then Qac (ix Ab.f0 Aa) λAd=>Qac (ix Ac Ad) λAo=>Qac (ix Ab.f0 Aa) λAp=>Qac (ix Ak Ad) λAi=>Aj (Qhn Ac Ad (⟨Ag,Af,Ae,Al⟩:Spot)) (w64 (Af+Ai.fW)) (w64 (Aa+1)) else Am Ac (w64 (Ae+Ab.fD)) (w64 (Ah+1))
def Qgd (fu:Nat) (Ag:List Spot→Int→Int→Option ((List Spot))) (Af:List Box) (Aa:Int) (Ae:Int) (Ad:Int) (Ab:Int) (Ac:Shelf):Nat→List Spot→Int→Int→Option ((List Spot))
  | 0=>λ_ _ _=>none
  | n+1=>Qkx fu Ag Af Aa Ae Ad Ab Ac (Qgd fu Ag Af Aa Ae Ad Ab Ac n)
def Qlc (fu:Nat) (Ae:List Spot→Int→Int→Option ((List Spot))) (Aj:List Box) (Ak:(List Shelf)) (Af:Int) (Ac:Int) (Ag:Int) (Ab:Layer) (Am:List Spot→Int→Int→Option ((List Spot))) (Ad:List Spot) (Ai:Int) (Aa:Int):Option ((List Spot)) :=
  bif (decide (Aa<(Ab.fP.length:Int))) then Qac (ix Ab.fP Aa) λAl=>Qac (ix Ak Al) λAh=>Qgd fu Am Aj Af Ac Ai Aa Ah fu Ad 0 0 else Ae Ad (w64 (Ac+Ab.fH)) (w64 (Ag+1))
def Qdk (fu:Nat) (Aa:List Spot→Int→Int→Option ((List Spot))) (Ae:List Box) (Af:(List Shelf)) (Ab:Int) (Ad:Int) (Ac:Int) (Ag:Layer):Nat→List Spot→Int→Int→Option ((List Spot))
  | 0=>λ_ _ _=>none
  | n+1=>Qlc fu Aa Ae Af Ab Ad Ac Ag (Qdk fu Aa Ae Af Ab Ad Ac Ag n)
def Qj3 (fu:Nat) (Ag:List Spot→Int→Option ((List Spot))) (Ai:List Box) (Ak:(List Shelf)) (Ah:(List Layer)) (Ad:(List Load)) (Aa:Int) (Af:List Spot→Int→Int→Option ((List Spot))) (Ae:List Spot) (Aj:Int) (Ab:Int):Option ((List Spot)) :=
  Qac (ix Ad Aa) λAc=>bif (decide (Ab<(Ac.fK.length:Int))) then Qac (ix Ad Aa) λAo=>Qac (ix Ac.fK Ab) λAm=>Qac (ix Ah Am) λAl=>Qdk fu Af Ai Ak Aa Aj Ab Al fu Ae 0 0 else Ag Ae (w64 (Aa+1))
def Qcf (fu:Nat) (Ac:List Spot→Int→Option ((List Spot))) (Ae:List Box) (Af:(List Shelf)) (Ad:(List Layer)) (Aa:(List Load)) (Ab:Int):Nat→List Spot→Int→Int→Option ((List Spot))
  | 0=>λ_ _ _=>none
  | n+1=>Qj3 fu Ac Ae Af Ad Aa Ab (Qcf fu Ac Ae Af Ad Aa Ab n)
def Qkw (fu:Nat)  (Af:List Box) (Ag:(List Shelf)) (Ae:(List Layer)) (Aa:(List Load)) (Ad:List Spot→Int→Option ((List Spot))) (Ac:List Spot) (Ab:Int):Option ((List Spot)) :=
  bif (decide (Ab<(Aa.length:Int))) then Qcf fu Ad Af Ag Ae Aa Ab fu Ac 0 0 else some (Ac)
def Qbo (fu:Nat)  (Ad:List Box) (Ac:(List Shelf)) (Ab:(List Layer)) (Aa:(List Load)):Nat→List Spot→Int→Option ((List Spot))
  | 0=>λ_ _=>none
  | n+1=>Qkw fu Ad Ac Ab Aa (Qbo fu Ad Ac Ab Aa n)
def Qlt (fu:Nat) (p1:Pallet) (Aa:List Box):Option ((List Spot)) :=
  Qac (mk 32 (⟨(0:Int),(0:Int),(0:Int),(0:Int)⟩:Spot) (Aa.length:Int)) λAf=>Qac (Qlz fu p1 Aa) λAe=>bif (!Ae) then some (([]:List Spot)) else Qac (Qor fu p1 Aa) λAc=>Qac (Qm9 fu p1 Ac) λAb=>Qac (Qo8 fu p1 Ab) λAd=>Qbo fu Aa Ac Ab Ad fu Af 0
def Qjd (fu:Nat) (k3:Int→Int→Option (Int)) (Ab:Int) (Aa:Int):Option (Int) :=
  k3 Aa (w64 (Ab+1))
def Qkp (fu:Nat)  (Ab:List Spot) (k3:Int→Int→Option (Int)) (Ac:Int) (Aa:Int):Option (Int) :=
  bif (decide (Aa<(Ab.length:Int))) then Qac (ix Ab Aa) λAd=>Qac (Qau fu Ad.fJ 0 999999) λAe=>bif Ae then Qac (ix Ab Aa) λAg=>Qac (Qju fu Ac (w64 (Ad.fJ+1))) λAf=>Qjd fu k3 Aa Af else Qjd fu k3 Aa Ac else some (Ac)
def Qfd (fu:Nat)  (Aa:List Spot):Nat→Int→Int→Option (Int)
  | 0=>λ_ _=>none
  | n+1=>Qkp fu Aa (Qfd fu Aa n)
def Qon (fu:Nat) (Aa:List Spot):Option (Int) :=
  Qfd fu Aa fu 0 0
def Qli (fu:Nat) (Ac:List Box→Int→Option (Plan×Bool)) (Aa:Int) (Ab:List Box):Option (Plan×Bool) :=
  Ac Ab (w64 (Aa+1))
def Ql3 (fu:Nat) (Af:List Spot→Int→Int→Option (Plan×Bool)) (Ae:Int) (Ah:Int) (Ac:(List Spot)) (Aj:List Spot→Int→Option (Plan×Bool)) (Ad:List Spot) (Ab:Int):Option (Plan×Bool) :=
  bif (decide (Ab<(Ac.length:Int))) then Qac (ix Ac Ab) λAa=>Qac (Qfi 32 Ad (([(⟨w64 (Aa.fJ+Ae),Aa.fX,Aa.fY,Aa.fZ⟩:Spot)]:List Spot))) λAi=>Aj Ai (w64 (Ab+1)) else Qac (Qon fu Ac) λAg=>Af Ad (w64 (Ae+Ag)) (w64 (Ah+1))
def Qfx (fu:Nat) (Ac:List Spot→Int→Int→Option (Plan×Bool)) (Ab:Int) (Ad:Int) (Aa:(List Spot)):Nat→List Spot→Int→Option (Plan×Bool)
  | 0=>λ_ _=>none
  | n+1=>Ql3 fu Ac Ab Ad Aa (Qfx fu Ac Ab Ad Aa n)
def Ql4 (fu:Nat) (Ah:List Spot→Int→Int→Option (Plan×Bool)) (r1:Request) (Ab:(List Carton)) (Ai:List Spot) (Al:Int) (Ae:Int) (Ad:List Box→Int→Option (Plan×Bool)) (Ac:List Box) (Aa:Int):Option (Plan×Bool) :=
  bif (decide (Aa<(Ab.length:Int))) then Qac (ix Ab Aa) λAf=>bif (Af.fa==Ae) then Qac (ix Ab Aa) λAm=>Qac (Qq8 fu r1 Af) λAg=>Qac (Qfi 32 Ac (([Ag]:List Box))) λAj=>Qli fu Ad Aa Aj else Qli fu Ad Aa Ac else Qac (Qlt fu r1.fJ Ac) λAk=>Qfx fu Ah Al Ae Ak fu Ai 0
def Qf1 (fu:Nat) (Aa:List Spot→Int→Int→Option (Plan×Bool)) (r1:Request) (Ac:(List Carton)) (Ab:List Spot) (Ae:Int) (Ad:Int):Nat→List Box→Int→Option (Plan×Bool)
  | 0=>λ_ _=>none
  | n+1=>Ql4 fu Aa r1 Ac Ab Ae Ad (Qf1 fu Aa r1 Ac Ab Ae Ad n)
def Ql8 (fu:Nat)  (r1:Request) (Ab:(List Carton)) (Ae:(List (List Int))) (Ad:List Spot→Int→Int→Option (Plan×Bool)) (Aa:List Spot) (Af:Int) (Ac:Int):Option (Plan×Bool) :=
  bif (decide (Ac<(Ae.length:Int))) then Qf1 fu Ad r1 Ab Aa Af Ac fu (([]:List Box)) 0 else some ((⟨Ab,Aa⟩:Plan),true)
def Qcj (fu:Nat)  (r1:Request) (Ab:(List Carton)) (Aa:(List (List Int))):Nat→List Spot→Int→Int→Option (Plan×Bool)
  | 0=>λ_ _ _=>none
  | n+1=>Ql8 fu r1 Ab Aa (Qcj fu r1 Ab Aa n)
def Qp2 (fu:Nat) (r1:Request):Option (Plan×Bool) :=
  Qac (Qe5 fu r1) λAc=>bif (Ac != 0) then some ((⟨[],[]⟩:Plan),false) else Qac (Qle fu r1) λAb=>Qac (Qhl fu r1) λAa=>Qcj fu r1 Ab Aa fu (([]:List Spot)) 0 0
def Qhf (fu:Nat) (k4:Int→Option (Bool)) (Aa:Int)  : Option (Bool) :=
  k4 (w64 (Aa+1))
def Qh2 (fu:Nat)  (x1:Carton) (k4:Int→Option (Bool)) (Aa:Int):Option (Bool) :=
  bif (decide (Aa<(x1.f9.length:Int))) then Qac (ix x1.f9 Aa) λAb=>Qac (Qau fu Ab 0 999) λAc=>bif (!Ac) then some (false) else bif (decide (Aa>0)) then Qac (ix x1.f9 Aa) λAe=>Qac (ix x1.f9 (w64 (Aa - 1))) λAd=>bif (decide (Ab≤Ad)) then some (false) else Qhf fu k4 Aa else Qhf fu k4 Aa else some (true)
def Qd3 (fu:Nat)  (x1:Carton):Nat→Int→Option (Bool)
  | 0=>λ_=>none
  | n+1=>Qh2 fu x1 (Qd3 fu x1 n)
def Qka (fu:Nat) (x1:Carton)  : Option (Bool) :=
  Qd3 fu x1 fu 0
def Qlh (fu:Nat) (x1:Carton):Option (Bool) :=
  Qac (Qm2 fu x1.fe) λAb=>bif (!Ab) then some (false) else Qac (Qau fu x1.fa 0 3) λAa=>bif (!Aa) then some (false) else bif (decide ((x1.f9.length:Int)>100)) then some (false) else Qka fu x1
def Qpr (fu:Nat) (k4:Int→Option (Bool)) (Aa:Int)  : Option (Bool) :=
  k4 (w64 (Aa+1))
def Qmt (fu:Nat)  (x1:Plan) (k4:Int→Option (Bool)) (Ab:Int):Option (Bool) :=
  bif (decide (Ab<(x1.fE.length:Int))) then Qac (ix x1.fc Ab) λAa=>Qac (ix x1.fE Ab) λAg=>Qac (Qlh fu Ag) λAc=>bif (!Ac) then some (false) else Qac (Qau fu Aa.fJ 0 2000) λAd=>bif (!Ad) then some (false) else Qac (Qau fu Aa.fX 0 2000) λAe=>bif (!Ae) then some (false) else Qac (Qau fu Aa.fY 0 2000) λAf=>bif (!Af) then some (false) else Qac (Qau fu Aa.fZ 0 2000) λAh=>bif (!Ah) then some (false) else Qpr fu k4 Ab else some (true)
def Qfz (fu:Nat)  (x1:Plan):Nat→Int→Option (Bool)
  | 0=>λ_=>none
  | n+1=>Qmt fu x1 (Qfz fu x1 n)
def Qpm (fu:Nat) (x1:Plan)  : Option (Bool) :=
  Qfz fu x1 fu 0
def Qql (fu:Nat) (x1:Plan):Option (Bool) :=
  bif ((x1.fE.length:Int) != (x1.fc.length:Int)) then some (false) else bif (decide ((x1.fE.length:Int)>100)) then some (false) else Qpm fu x1
def Qkf (fu:Nat)  (Ab:List Int) (k1:ByteArray→Int→Option (ByteArray)) (Ac:ByteArray) (Aa:Int):Option (ByteArray) :=
  bif (decide (Aa<(Ab.length:Int))) then Qac (Qyv Ac (⟨#[32]⟩:ByteArray)) λAf=>Qac (ix Ab Aa) λAe=>Qac (Qlb fu Ae) λAg=>Qac (Qyv Af Ag) λAd=>k1 Ad (w64 (Aa+1)) else some (Ac)
def Qd6 (fu:Nat)  (Aa:List Int):Nat→ByteArray→Int→Option (ByteArray)
  | 0=>λ_ _=>none
  | n+1=>Qkf fu Aa (Qd6 fu Aa n)
def Qo3 (fu:Nat) (x1:Carton) (Aa:Spot):Option (ByteArray) :=
  Qac (Qfi 8 (([x1.fe,x1.fa,Aa.fJ,Aa.fX,Aa.fY,Aa.fZ]:List Int)) x1.f9) λAb=>Qd6 fu Ab fu (⟨#[99,97,114,116,111,110]⟩:ByteArray) 0
def Qi1 (fu:Nat)  (x1:Plan) (k1:ByteArray→Int→Option (ByteArray)) (Ab:ByteArray) (Aa:Int):Option (ByteArray) :=
  bif (decide (Aa<(x1.fE.length:Int))) then Qac (ix x1.fE Aa) λAd=>Qac (ix x1.fc Aa) λAe=>Qac (Qo3 fu Ad Ae) λAc=>Qac (Qyv Ab Ac) λAg=>Qac (Qyv Ag (⟨#[10]⟩:ByteArray)) λAf=>k1 Af (w64 (Aa+1)) else some (Ab)
def Qeg (fu:Nat)  (x1:Plan):Nat→ByteArray→Int→Option (ByteArray)
  | 0=>λ_ _=>none
  | n+1=>Qi1 fu x1 (Qeg fu x1 n)
def Qnb (fu:Nat) (x1:Plan):Option (ByteArray) :=
  Qac (Qql fu x1) λAa=>bif (!Aa) then some (⟨#[]⟩:ByteArray) else Qeg fu x1 fu (⟨#[]⟩:ByteArray) 0
def Qr0 (fu:Nat) (Aa:ByteArray):Option (ByteArray×Int) :=
  Qac (Qo1 fu Aa) λx2=>bif (x2 != 0) then some ((⟨#[]⟩:ByteArray),x2) else Qac (Qhw fu Aa) λx7=>Qac (Qp2 fu x7.1) λAb=>Qac (Qnb fu Ab.1) λAc=>some (Ac,0)
def Qnd (fu:Nat) (k3:List ByteArray→Int→Int→Option ((List ByteArray))) (Aa:Int) (Ab:List ByteArray) (Ac:Int):Option ((List ByteArray)) :=
  k3 Ab Ac (w64 (Aa+1))
def Qnl (fu:Nat)  (Ab:ByteArray) (Ag:Int) (k3:List ByteArray→Int→Int→Option ((List ByteArray))) (Ad:List ByteArray) (Ac:Int) (Aa:Int):Option ((List ByteArray)) :=
  bif (decide (Aa<((Ab.size:Int)))) then Qac (sx Ab Aa) λAe=>bif (Ae==Ag) then Qac (ssl Ab Ac Aa) λAi=>Qac (Qfi 16 Ad (([Ai]:List ByteArray))) λAj=>Qnd fu k3 Aa Aj (w64 (Aa+1)) else Qnd fu k3 Aa Ad Ac else Qac (ssl Ab Ac (Ab.size:Int)) λAf=>Qac (Qfi 16 Ad (([Af]:List ByteArray))) λAh=>some (Ah)
def Qgv (fu:Nat)  (Aa:ByteArray) (Ab:Int):Nat→List ByteArray→Int→Int→Option ((List ByteArray))
  | 0=>λ_ _ _=>none
  | n+1=>Qnl fu Aa Ab (Qgv fu Aa Ab n)
def Qpz (fu:Nat) (Aa:ByteArray) (Ab:Int):Option ((List ByteArray)) :=
  Qgv fu Aa Ab fu (([]:List ByteArray)) 0 0
def Qsp (fu:Nat) (x1:ByteArray):Option (Int×Bool):=Q87 x1
def Qaz (fu:Nat) (n1:Int) (Aa:Int) (Ab:Int):Option (Bool) :=
  bif (decide (n1≥Aa)) then some (decide (n1≤Ab)) else some (false)
def Qsh (fu:Nat) (x1:Int):Option ByteArray:=Q91 x1
def Qnw (fu:Nat) (n1:Int):Option (ByteArray) :=
  Qac (Qsh fu n1) λx2=>some (x2)
def Qpb (fu:Nat) (x2:Int×Bool)  : Option (Int×Bool) :=
  some (x2.1,true)
def Qic (fu:Nat) (Aa:ByteArray):Option (Int×Bool) :=
  Qac (Qsp fu Aa) λx2=>bif x2.2 then some (0,false) else Qac (Qaz fu x2.1 0 999999) λAc=>bif (!Ac) then some (0,false) else Qac (Qnw fu x2.1) λAb=>bif (!(Ab.toList==Aa.toList)) then some (0,false) else Qpb fu x2
def Qjy (fu:Nat)  (Ad:List ByteArray) (k2:List Int→Int→Option ((List Int)×Bool)) (Ab:List Int) (Aa:Int):Option ((List Int)×Bool) :=
  bif (decide (Aa<(Ad.length:Int))) then Qac (ix Ad Aa) λAf=>Qac (Qic fu Af) λAc=>bif (!Ac.2) then some (([]:List Int),false) else Qac (Qfi 8 Ab (([Ac.1]:List Int))) λAe=>k2 Ae (w64 (Aa+1)) else some (Ab,true)
def Qe9 (fu:Nat)  (Aa:List ByteArray):Nat→List Int→Int→Option ((List Int)×Bool)
  | 0=>λ_ _=>none
  | n+1=>Qjy fu Aa (Qe9 fu Aa n)
def Qof (fu:Nat) (x4:(List ByteArray))  : Option ((List Int)×Bool) :=
  Qac (sls x4 1 (x4.length:Int)) λAa=>Qe9 fu Aa fu (([]:List Int)) 0
def Qcd (fu:Nat) (Aa:ByteArray) (Ac:ByteArray) (Ad:Int):Option ((List Int)×Bool) :=
  Qac (Qpz fu Aa 32) λx4=>Qac (ix x4 0) λAb=>bif (!(Ab.toList==Ac.toList)) then some (([]:List Int),false) else bif ((x4.length:Int) != (w64 (Ad+1))) then some (([]:List Int),false) else Qof fu x4
def Qov (fu:Nat) (r1:Request) (Ac:ByteArray):Option (Int×Request) :=
  bif (Ac.toList==(⟨#[119,97,121,32,102,105,114,115,116]⟩:ByteArray).toList) then some (0,(⟨0,r1.fJ,r1.fU,r1.fR,r1.fG,r1.fT,r1.fV⟩:Request)) else bif (Ac.toList==(⟨#[119,97,121,32,110,101,120,116]⟩:ByteArray).toList) then some (0,(⟨1,r1.fJ,r1.fU,r1.fR,r1.fG,r1.fT,r1.fV⟩:Request)) else Qac (Qcd fu Ac (⟨#[112,97,108,108,101,116]⟩:ByteArray) 4) λAd=>bif Ad.2 then Qac (ix Ad.1 0) λAl=>Qac (ix Ad.1 1) λAx=>Qac (ix Ad.1 2) λAj=>Qac (ix Ad.1 3) λBg=>some (1,(⟨r1.ff,(⟨Al,Ax,Aj,Bg⟩:Pallet),r1.fU,r1.fR,r1.fG,r1.fT,r1.fV⟩:Request)) else Qac (Qcd fu Ac (⟨#[99,108,97,115,115,101,115]⟩:ByteArray) 1) λAf=>bif Af.2 then Qac (ix Af.1 0) λAw=>some (2,(⟨r1.ff,r1.fJ,Aw,r1.fR,r1.fG,r1.fT,r1.fV⟩:Request)) else Qac (Qcd fu Ac (⟨#[119,105,116,104]⟩:ByteArray) 2) λAe=>bif Ae.2 then Qac (ix Ae.1 0) λBb=>Qac (ix Ae.1 1) λBc=>Qac (Qfi 16 r1.fR (([(⟨Bb,Bc⟩:Pair)]:List Pair))) λAz=>some (3,(⟨r1.ff,r1.fJ,r1.fU,Az,r1.fG,r1.fT,r1.fV⟩:Request)) else Qac (Qcd fu Ac (⟨#[116,121,112,101]⟩:ByteArray) 7) λAa=>bif Aa.2 then Qac (ix Aa.1 0) λBe=>Qac (ix Aa.1 1) λAs=>Qac (ix Aa.1 2) λAr=>Qac (ix Aa.1 3) λAk=>Qac (ix Aa.1 4) λAp=>Qac (ix Aa.1 5) λAv=>Qac (ix Aa.1 6) λAy=>Qac (Qfi 56 r1.fG (([(⟨Be,As,Ar,Ak,Ap,Av,Ay⟩:Typ)]:List Typ))) λAi=>some (4,(⟨r1.ff,r1.fJ,r1.fU,r1.fR,Ai,r1.fT,r1.fV⟩:Request)) else Qac (Qcd fu Ac (⟨#[109,97,115,116,101,114]⟩:ByteArray) 1) λAg=>bif Ag.2 then Qac (ix Ag.1 0) λBa=>some (5,(⟨r1.ff,r1.fJ,r1.fU,r1.fR,r1.fG,Ba,r1.fV⟩:Request)) else Qac (Qcd fu Ac (⟨#[105,116,101,109]⟩:ByteArray) 7) λAb=>bif Ab.2 then Qac (ix Ab.1 0) λAm=>Qac (ix Ab.1 1) λAh=>Qac (ix Ab.1 2) λAu=>Qac (ix Ab.1 3) λBd=>Qac (ix Ab.1 4) λBf=>Qac (ix Ab.1 5) λAt=>Qac (ix Ab.1 6) λAo=>Qac (Qfi 56 r1.fV (([(⟨Am,Ah,Au,Bd,Bf,At,Ao⟩:Item)]:List Item))) λAq=>some (6,(⟨r1.ff,r1.fJ,r1.fU,r1.fR,r1.fG,r1.fT,Aq⟩:Request)) else some ((-1),r1)
def Qge (fu:Nat)   : Option (Bool) :=
  some (false)
def Qlr (fu:Nat) (Aa:Int) (Ab:Int):Option (Bool) :=
  bif (Ab==0) then bif (Ab==0) then some (Aa==(w64 (Ab - 1))) else bif (Ab==3) then bif (Aa==2) then some (true) else some (Aa==3) else bif (Ab==4) then Qac (Qaz fu Aa 2 4) λAd=>some (Ad) else bif (Ab==5) then Qac (Qaz fu Aa 2 4) λAh=>some (Ah) else bif (Ab==6) then bif (Aa==5) then some (true) else some (Aa==6) else Qge fu else bif (Ab==1) then bif (Ab==1) then some (Aa==(w64 (Ab - 1))) else bif (Ab==3) then bif (Aa==2) then some (true) else some (Aa==3) else bif (Ab==4) then Qac (Qaz fu Aa 2 4) λAc=>some (Ac) else bif (Ab==5) then Qac (Qaz fu Aa 2 4) λAf=>some (Af) else bif (Ab==6) then bif (Aa==5) then some (true) else some (Aa==6) else Qge fu else bif (Ab==2) then some (Aa==(w64 (Ab - 1))) else bif (Ab==3) then bif (Aa==2) then some (true) else some (Aa==3) else bif (Ab==4) then Qac (Qaz fu Aa 2 4) λAe=>some (Ae) else bif (Ab==5) then Qac (Qaz fu Aa 2 4) λAg=>some (Ag) else bif (Ab==6) then bif (Aa==5) then some (true) else some (Aa==6) else Qge fu
def Qh8 (fu:Nat)  (x5:(List ByteArray)) (Ao:List ByteArray) (k1:Int→Int→Int→Int→Int→Int→List Pair→List Typ→Int→List Item→Int→Int→Option (Request×Int)) (Ah:Int) (Ac:Int) (Ae:Int) (Ak:Int) (Aj:Int) (Af:Int) (Ai:List Pair) (Ag:List Typ) (Al:Int) (Am:List Item) (Ad:Int) (Ab:Int):Option (Request×Int) :=
  bif (decide (Ab<(Ao.length:Int))) then Qac (ix Ao Ab) λAq=>Qac (Qov fu ((⟨Ah,(⟨Ac,Ae,Ak,Aj⟩:Pallet),Af,Ai,Ag,Al,Am⟩:Request)) Aq) λAa=>Qac (Qlr fu Ad Aa.1) λAp=>bif (!Ap) then some ((⟨0,(⟨0,0,0,0⟩:Pallet),0,[],[],0,[]⟩:Request),Ab) else k1 Aa.2.ff Aa.2.fJ.fW Aa.2.fJ.fD Aa.2.fJ.fH Aa.2.fJ.fQ Aa.2.fU Aa.2.fR Aa.2.fG Aa.2.fT Aa.2.fV Aa.1 (w64 (Ab+1)) else bif (decide (Ad<5)) then some ((⟨0,(⟨0,0,0,0⟩:Pallet),0,[],[],0,[]⟩:Request),w64 ((x5.length:Int) - 1)) else Qac (ix x5 (w64 ((x5.length:Int) - 1))) λAr=>bif (!(Ar.toList==(⟨#[]⟩:ByteArray).toList)) then some ((⟨0,(⟨0,0,0,0⟩:Pallet),0,[],[],0,[]⟩:Request),w64 ((x5.length:Int) - 1)) else some ((⟨Ah,(⟨Ac,Ae,Ak,Aj⟩:Pallet),Af,Ai,Ag,Al,Am⟩:Request),(-1))
def Qez (fu:Nat)  (x5:(List ByteArray)) (Aa:List ByteArray):Nat→Int→Int→Int→Int→Int→Int→List Pair→List Typ→Int→List Item→Int→Int→Option (Request×Int)
  | 0=>λ_ _ _ _ _ _ _ _ _ _ _ _=>none
  | n+1=>Qh8 fu x5 Aa (Qez fu x5 Aa n)
def Qhu (fu:Nat) (Aa:ByteArray):Option (Request×Int) :=
  Qac (Qpz fu Aa 10) λx5=>bif (decide ((w64 ((x5.length:Int) - 1))>60)) then some ((⟨0,(⟨0,0,0,0⟩:Pallet),0,[],[],0,[]⟩:Request),60) else Qac (sls x5 0 (w64 ((x5.length:Int) - 1))) λAb=>Qez fu x5 Ab fu 0 0 0 0 0 0 (([]:List Pair)) (([]:List Typ)) 0 (([]:List Item)) ((-1)) 0
def Qn1 (fu:Nat) (t1:Typ) (x2:Int):Option (Bool) :=
  some (t1.f8==x2)
def Qca (fu:Nat)  (Ab:List Typ) (f5:Typ→Option Bool) (k1:Int→Option (Int)) (Aa:Int):Option (Int) :=
  bif (decide (Aa<(Ab.length:Int))) then Qac (ix Ab Aa) λAd=>Qac (f5 Ad) λAc=>bif Ac then some (Aa) else k1 (w64 (Aa+1)) else some ((-1))
def Qa3 (fu:Nat)  (Aa:List Typ) (f5:Typ→Option Bool):Nat→Int→Option (Int)
  | 0=>λ_=>none
  | n+1=>Qca fu Aa f5 (Qa3 fu Aa f5 n)
def Qbh (fu:Nat) (Aa:List Typ) (f5:Typ→Option Bool):Option (Int) :=
  Qa3 fu Aa f5 fu 0
def Qhm (fu:Nat) (r1:Request) (Ad:Int):Option (Typ×Bool) :=
  Qac (Qbh fu r1.fG (λAb=>Qn1 fu Ab Ad)) λAa=>bif (decide (Aa<0)) then some ((⟨0,0,0,0,0,0,0⟩:Typ),false) else Qac (ix r1.fG Aa) λAc=>some (Ac,true)
def Qhg (fu:Nat) (r1:Request):Option (Typ×Bool) :=
  Qac (Qhm fu r1 r1.fT) λAa=>some (Aa.1,Aa.2)
def Qdu (fu:Nat) (n1:Int):Option (Bool) :=
  Qac (Qaz fu n1 1 2000) λx2=>some (x2)
def Qem (fu:Nat) (x1:Pallet):Option (Bool) :=
  Qac (Qdu fu x1.fW) λx5=>bif x5 then Qac (Qdu fu x1.fD) λAb=>bif Ab then Qac (Qdu fu x1.fH) λAa=>bif Aa then Qac (Qaz fu x1.fQ 1 100000) λAc=>some (Ac) else some (false) else some (false) else some (false)
def Qb9 (fu:Nat)  (Ab:List Pair) (f5:Pair→Option Bool) (k1:Int→Option (Int)) (Aa:Int):Option (Int) :=
  bif (decide (Aa<(Ab.length:Int))) then Qac (ix Ab Aa) λAd=>Qac (f5 Ad) λAc=>bif Ac then some (Aa) else k1 (w64 (Aa+1)) else some ((-1))
def Qa2 (fu:Nat)  (Aa:List Pair) (f5:Pair→Option Bool):Nat→Int→Option (Int)
  | 0=>λ_=>none
  | n+1=>Qb9 fu Aa f5 (Qa2 fu Aa f5 n)
def Qb3 (fu:Nat) (Aa:List Pair) (f5:Pair→Option Bool):Option (Int) :=
  Qa2 fu Aa f5 fu 0
def Qa5 (fu:Nat) (Ab:List Pair) (f5:Pair→Option Bool):Option (Bool) :=
  Qac (Qb3 fu Ab f5) λAa=>some (decide (Aa≥0))
def Qjm (fu:Nat) (p1:Pair):Option (Bool) :=
  Qac (Qaz fu p1.fA 0 3) λx5=>bif (!x5) then some (true) else Qac (Qaz fu p1.fB 0 3) λAa=>some (!Aa)
def Qat (fu:Nat) (Ab:List Typ) (f5:Typ→Option Bool):Option (Bool) :=
  Qac (Qbh fu Ab f5) λAa=>some (decide (Aa≥0))
def Qqn (fu:Nat) (x1:Typ):Option (Bool) :=
  Qac (Qaz fu x1.f8 0 999) λx5=>bif x5 then Qac (Qdu fu x1.fW) λAf=>bif Af then Qac (Qdu fu x1.fH) λAb=>bif Ab then Qac (Qdu fu x1.fD) λAe=>bif Ae then Qac (Qaz fu x1.fO 0 100000) λAd=>bif Ad then Qac (Qaz fu x1.fQ 1 100000) λAc=>bif Ac then Qac (Qaz fu x1.fL 0 100000) λAa=>some (Aa) else some (false) else some (false) else some (false) else some (false) else some (false) else some (false)
def Qi9 (fu:Nat) (t1:Typ):Option (Bool) :=
  Qac (Qqn fu t1) λx5=>some (!x5)
def Qqi (fu:Nat) (x1:Item):Option (Bool) :=
  Qac (Qaz fu x1.f8 0 999) λx5=>bif x5 then Qac (Qdu fu x1.fW) λAf=>bif Af then Qac (Qdu fu x1.fH) λAb=>bif Ab then Qac (Qdu fu x1.fD) λAe=>bif Ae then Qac (Qaz fu x1.fQ 1 100000) λAd=>bif Ad then Qac (Qaz fu x1.fM 0 3) λAc=>bif Ac then Qac (Qaz fu x1.fF 1 6) λAa=>some (Aa) else some (false) else some (false) else some (false) else some (false) else some (false) else some (false)
def Qit (fu:Nat)  (r1:Request) (k3:Int→Int→Option (Bool)) (Ac:Int) (Aa:Int):Option (Bool) :=
  bif (decide (Aa<(r1.fV.length:Int))) then Qac (ix r1.fV Aa) λAb=>Qac (Qqi fu Ab) λAd=>bif (!Ad) then some (false) else k3 (w64 (Ac+Ab.fF)) (w64 (Aa+1)) else some (decide (Ac≤12))
def Qej (fu:Nat)  (r1:Request):Nat→Int→Int→Option (Bool)
  | 0=>λ_ _=>none
  | n+1=>Qit fu r1 (Qej fu r1 n)
def Qms (fu:Nat) (r1:Request)  : Option (Bool) :=
  Qej fu r1 fu 0 0
def Ql6 (fu:Nat) (r1:Request)  : Option (Bool) :=
  Qac (Qa5 fu r1.fR (λAb=>Qjm fu Ab)) λAd=>bif Ad then some (false) else Qac (Qaz fu (r1.fG.length:Int) 1 5) λAa=>bif (!Aa) then some (false) else Qac (Qat fu r1.fG (λAc=>Qi9 fu Ac)) λAe=>bif Ae then some (false) else Qac (Qaz fu r1.fT 0 999) λAf=>bif (!Af) then some (false) else bif (decide ((r1.fV.length:Int)>8)) then some (false) else Qms fu r1
def Qm8 (fu:Nat) (r1:Request):Option (Bool) :=
  Qac (Qaz fu r1.ff 0 1) λAa=>bif (!Aa) then some (false) else Qac (Qem fu r1.fJ) λAc=>bif (!Ac) then some (false) else Qac (Qaz fu r1.fU 1 4) λAb=>bif (!Ab) then some (false) else bif (decide ((r1.fR.length:Int)>16)) then some (false) else Ql6 fu r1
def Qpl (fu:Nat) (q1:Typ) (x2:Typ):Option (Bool) :=
  some (q1.f8==x2.f8)
def Qpf (fu:Nat) (q1:Item) (x2:Item):Option (Bool) :=
  some (q1.f8==x2.f8)
def Qcb (fu:Nat)  (Ab:List Item) (f5:Item→Option Bool) (k1:Int→Option (Int)) (Aa:Int):Option (Int) :=
  bif (decide (Aa<(Ab.length:Int))) then Qac (ix Ab Aa) λAd=>Qac (f5 Ad) λAc=>bif Ac then some (Aa) else k1 (w64 (Aa+1)) else some ((-1))
def Qa6 (fu:Nat)  (Aa:List Item) (f5:Item→Option Bool):Nat→Int→Option (Int)
  | 0=>λ_=>none
  | n+1=>Qcb fu Aa f5 (Qa6 fu Aa f5 n)
def Qb5 (fu:Nat) (Aa:List Item) (f5:Item→Option Bool):Option (Int) :=
  Qa6 fu Aa f5 fu 0
def Qa4 (fu:Nat) (Ab:List Item) (f5:Item→Option Bool):Option (Bool) :=
  Qac (Qb5 fu Ab f5) λAa=>some (decide (Aa≥0))
def Qlo (fu:Nat) (p1:Pair) (x2:Request):Option (Bool) :=
  bif (decide (p1.fA≥x2.fU)) then some (true) else some (decide (p1.fB≥x2.fU))
def Qob (fu:Nat) (k4:Int→Option (Bool)) (Aa:Int)  : Option (Bool) :=
  k4 (w64 (Aa+1))
def Qkm (fu:Nat)  (r1:Request) (k4:Int→Option (Bool)) (Aa:Int):Option (Bool) :=
  bif (decide (Aa<(r1.fV.length:Int))) then Qac (ix r1.fV Aa) λAb=>bif (decide (Ab.fM≥r1.fU)) then some (false) else Qac (sls r1.fV 0 Aa) λAd=>Qac (Qa4 fu Ad (λAf=>Qpf fu Af Ab)) λAg=>bif Ag then some (false) else Qob fu k4 Aa else Qac (Qhg fu r1) λAe=>bif Ae.2 then Qac (Qa5 fu r1.fR (λAc=>Qlo fu Ac r1)) λAh=>some (!Ah) else some (false)
def Qdd (fu:Nat)  (r1:Request):Nat→Int→Option (Bool)
  | 0=>λ_=>none
  | n+1=>Qkm fu r1 (Qdd fu r1 n)
def Qk6 (fu:Nat)  (r1:Request) (k1:Int→Option (Bool)) (Aa:Int):Option (Bool) :=
  bif (decide (Aa<(r1.fG.length:Int))) then Qac (ix r1.fG Aa) λAe=>Qac (sls r1.fG 0 Aa) λAb=>Qac (Qat fu Ab (λAd=>Qpl fu Ad Ae)) λAc=>bif Ac then some (false) else k1 (w64 (Aa+1)) else Qdd fu r1 fu 0
def Qe2 (fu:Nat)  (r1:Request):Nat→Int→Option (Bool)
  | 0=>λ_=>none
  | n+1=>Qk6 fu r1 (Qe2 fu r1 n)
def Qot (fu:Nat) (r1:Request):Option (Bool) :=
  Qe2 fu r1 fu 0
def Qcr (fu:Nat)  (Ab:List Pair) (v5:Pair) (k1:Int→Option (Int)) (Aa:Int):Option (Int) :=
  bif (decide (Aa<(Ab.length:Int))) then Qac (ix Ab Aa) λAc=>bif (decide (v5=Ac)) then some (Aa) else k1 (w64 (Aa+1)) else some ((-1))
def Qbg (fu:Nat)  (Aa:List Pair) (v5:Pair):Nat→Int→Option (Int)
  | 0=>λ_=>none
  | n+1=>Qcr fu Aa v5 (Qbg fu Aa v5 n)
def Qdc (fu:Nat) (Aa:List Pair) (v5:Pair):Option (Int) :=
  Qbg fu Aa v5 fu 0
def Qcy (fu:Nat) (Aa:List Pair) (v5:Pair):Option (Bool) :=
  Qac (Qdc fu Aa v5) λAb=>some (decide (Ab≥0))
def Qg8 (fu:Nat) (Aa:List Pair) (a5:Int) (b6:Int):Option (Bool) :=
  Qac (Qcy fu Aa (⟨a5,b6⟩:Pair)) λx7=>some (x7)
def Qjz (fu:Nat) (k3:Int→Option (Bool)) (Ac:List Pair) (Af:Int) (Ab:Int) (k4:Int→Option (Bool)) (Aa:Int):Option (Bool) :=
  bif (decide (Aa<Af)) then Qac (Qg8 fu Ac Ab Aa) λAd=>Qac (Qg8 fu Ac Aa Ab) λAe=>bif (!(Ad==Ae)) then some (false) else k4 (w64 (Aa+1)) else k3 (w64 (Ab+1))
def Qe1 (fu:Nat) (k3:Int→Option (Bool)) (Aa:List Pair) (Ab:Int) (Ac:Int):Nat→Int→Option (Bool)
  | 0=>λ_=>none
  | n+1=>Qjz fu k3 Aa Ab Ac (Qe1 fu k3 Aa Ab Ac n)
def Qk7 (fu:Nat)  (Ab:List Pair) (Ac:Int) (k3:Int→Option (Bool)) (Aa:Int):Option (Bool) :=
  bif (decide (Aa<Ac)) then Qac (Qg8 fu Ab Aa Aa) λAd=>bif (!Ad) then some (false) else Qe1 fu k3 Ab Ac Aa fu 0 else some (true)
def Qfg (fu:Nat)  (Aa:List Pair) (Ab:Int):Nat→Int→Option (Bool)
  | 0=>λ_=>none
  | n+1=>Qk7 fu Aa Ab (Qfg fu Aa Ab n)
def Qo7 (fu:Nat) (Ab:List Pair) (Aa:Int):Option (Bool) :=
  Qac (Qaz fu Aa 1 4) λx6=>bif (!x6) then some (false) else Qfg fu Ab Aa fu 0
def Qc7 (fu:Nat) (x1:List Int):Option (List Int):=Q1c x1
def Qq2 (fu:Nat) (x1:Item) (t2:Typ) (Af:List Int) (Ah:List Int):Option (Bool) :=
  Qac (Qc7 fu Af) λAa=>Qac (Qc7 fu Ah) λAb=>Qac (ix Aa 0) λAi=>Qac (ix Ab 0) λAc=>bif (decide (Ai≤Ac)) then Qac (ix Aa 1) λAe=>Qac (ix Ab 1) λAd=>bif (decide (Ae≤Ad)) then Qac (ix Aa 2) λAj=>Qac (ix Ab 2) λAg=>bif (decide (Aj≤Ag)) then some (decide (x1.fQ≤t2.fQ)) else some (false) else some (false) else some (false)
def Qqs (fu:Nat) (x1:Item) (t2:Typ):Option (Bool) :=
  Qq2 fu x1 t2 (([x1.fW,x1.fH,x1.fD]:List Int)) (([t2.fW,t2.fH,t2.fD]:List Int))
def Qo6 (fu:Nat) (x1:Item) (x2:Typ):Option (Bool) :=
  Qac (Qqs fu x1 x2) λx8=>some (!x8)
def Qol (fu:Nat) (t1:Typ) (x2:Pallet):Option (Bool) :=
  bif (decide (t1.fW>x2.fW)) then some (true) else bif (decide (t1.fD>x2.fD)) then some (true) else bif (decide (t1.fH>x2.fH)) then some (true) else some (decide ((w64 (t1.fO+t1.fQ))>x2.fQ))
def Qpw (fu:Nat) (r1:Request):Option (Int) :=
  Qac (Qhg fu r1) λAf=>Qac (Qm8 fu r1) λAc=>bif (!Ac) then some (2) else Qac (Qot fu r1) λAa=>bif (!Aa) then some (3) else Qac (Qo7 fu r1.fR r1.fU) λAe=>bif (!Ae) then some (4) else Qac (Qa4 fu r1.fV (λAg=>Qo6 fu Ag Af.1)) λAb=>bif Ab then some (5) else Qac (Qat fu r1.fG (λAh=>Qol fu Ah r1.fJ)) λAd=>bif Ad then some (6) else some (0)
def Qou (fu:Nat) (Aa:ByteArray):Option (Int) :=
  Qac (Qhu fu Aa) λx2=>bif (decide (x2.2≥0)) then some (1) else Qac (Qpw fu x2.1) λAb=>some (Ab)
def Qf0 (fu:Nat) (r1:Request):Option (Bool) :=
  Qac (Qpw fu r1) λAa=>some (Aa==0)
def Qcx (fu:Nat) (Aa:List Int):Option ((List Int)) :=
  Qac (Qfi 8 (([]:List Int)) Aa) λAb=>some (Ab)
def Qi6 (fu:Nat) (x1:List Int):Option (List Int):=Jf1 x1
def Qjt (fu:Nat) (Ab:List Int):Option ((List Int)) :=
  Qac (Qcx fu Ab) λx5=>Qac (Qc7 fu x5) λAc=>Qac (Qi6 fu Ac) λAa=>some (Aa)
def Qko (fu:Nat)  (r1:Request) (k1:List Int→Int→Option ((List Int))) (Ab:List Int) (Aa:Int):Option ((List Int)) :=
  bif (decide (Aa<(r1.fV.length:Int))) then Qac (ix r1.fV Aa) λAe=>Qac (Qfi 8 Ab (([Ae.fM]:List Int))) λAd=>k1 Ad (w64 (Aa+1)) else Qac (Qjt fu Ab) λAc=>some (Ac)
def Qgl (fu:Nat)  (r1:Request):Nat→List Int→Int→Option ((List Int))
  | 0=>λ_ _=>none
  | n+1=>Qko fu r1 (Qgl fu r1 n)
def Qoj (fu:Nat) (r1:Request):Option ((List Int)) :=
  Qac (Qf0 fu r1) λAa=>bif (!Aa) then some (([]:List Int)) else Qgl fu r1 fu (([]:List Int)) 0
def Qp3 (fu:Nat) (Aa:List Pair) (a5:Int) (b6:Int):Option (Bool) :=
  Qac (Qg8 fu Aa a5 b6) λx7=>bif x7 then Qac (Qg8 fu Aa b6 a5) λAb=>some (Ab) else some (false)
def Qjg (fu:Nat) (x1:Int) (x2:List Pair) (x8:Int):Option (Bool) :=
  Qac (Qp3 fu x2 x8 x1) λAa=>some (!Aa)
def Qed (fu:Nat)  (Ab:List Int) (f5:Int→Option Bool) (k1:Int→Option (Int)) (Aa:Int):Option (Int) :=
  bif (decide (Aa<(Ab.length:Int))) then Qac (ix Ab Aa) λAd=>Qac (f5 Ad) λAc=>bif Ac then some (Aa) else k1 (w64 (Aa+1)) else some ((-1))
def Qb7 (fu:Nat)  (Aa:List Int) (f5:Int→Option Bool):Nat→Int→Option (Int)
  | 0=>λ_=>none
  | n+1=>Qed fu Aa f5 (Qb7 fu Aa f5 n)
def Qc9 (fu:Nat) (Aa:List Int) (f5:Int→Option Bool):Option (Int) :=
  Qb7 fu Aa f5 fu 0
def Qdb (fu:Nat) (Ab:List Int) (f5:Int→Option Bool):Option (Bool) :=
  Qac (Qc9 fu Ab f5) λAa=>some (decide (Aa≥0))
def Qnf (fu:Nat) (l1:List Int) (x5:List Pair) (Ac:Int):Option (Bool) :=
  Qac (Qdb fu l1 (λAa=>Qjg fu Aa x5 Ac)) λAb=>some (!Ab)
def Qdy (fu:Nat)  (Ab:List (List Int)) (f5:(List Int)→Option Bool) (k1:Int→Option (Int)) (Aa:Int):Option (Int) :=
  bif (decide (Aa<(Ab.length:Int))) then Qac (ix Ab Aa) λAc=>Qac (f5 Ac) λAd=>bif Ad then some (Aa) else k1 (w64 (Aa+1)) else some ((-1))
def Qbw (fu:Nat)  (Aa:List (List Int)) (f5:(List Int)→Option Bool):Nat→Int→Option (Int)
  | 0=>λ_=>none
  | n+1=>Qdy fu Aa f5 (Qbw fu Aa f5 n)
def Qc1 (fu:Nat) (Aa:List (List Int)) (f5:(List Int)→Option Bool):Option (Int) :=
  Qbw fu Aa f5 fu 0
def Qhx (fu:Nat) (k3:List (List Int)→Int→Option ((List (List Int)))) (Aa:Int) (Ab:List (List Int)):Option ((List (List Int))) :=
  k3 Ab (w64 (Aa+1))
def Qmd (fu:Nat)  (Af:List Pair) (Ae:(List Int)) (k3:List (List Int)→Int→Option ((List (List Int)))) (Aa:List (List Int)) (Ab:Int):Option ((List (List Int))) :=
  bif (decide (Ab<(Ae.length:Int))) then Qac (ix Ae Ab) λAc=>Qac (Qaz fu Ac 0 3) λAh=>bif (!Ah) then Qhx fu k3 Ab Aa else Qac (Qc1 fu Aa (λAi=>Qnf fu Ai Af Ac)) λAd=>bif (decide (Ad<0)) then Qac (Qfi 24 Aa [([Ac]:List Int)]) λAj=>Qhx fu k3 Ab Aj else Qac (ix Aa Ad) λAg=>Qac (Qfi 8 Ag (([Ac]:List Int))) λAk=>Qac (ix Aa Ad) λAl=>Qhx fu k3 Ab (Qhn Aa Ad Ak) else some (Aa)
def Qen (fu:Nat)  (Aa:List Pair) (Ab:(List Int)):Nat→List (List Int)→Int→Option ((List (List Int)))
  | 0=>λ_ _=>none
  | n+1=>Qmd fu Aa Ab (Qen fu Aa Ab n)
def Qp7 (fu:Nat) (Ab:List Pair) (Aa:List Int):Option ((List (List Int))) :=
  Qac (Qjt fu Aa) λAc=>Qen fu Ab Ac fu (([]:List (List Int))) 0
def Qhh (fu:Nat) (r1:Request):Option ((List (List Int))) :=
  Qac (Qf0 fu r1) λAb=>bif (!Ab) then some (([]:List (List Int))) else Qac (Qoj fu r1) λAc=>Qac (Qp7 fu r1.fR Ac) λAa=>some (Aa)
def Qtu (fu:Nat) (x1:Int) (y2:Int):Option (Int×Int) :=
  some (IntKind.wrap .u64 ((IntKind.wrap .u64 ((IntKind.wrap .u64 ((Int.fdiv x1 (2 ^ (min 32 (IntKind.bits .u64))))*(Int.fdiv y2 (2 ^ (min 32 (IntKind.bits .u64))))))+(Int.fdiv (IntKind.wrap .u64 ((IntKind.wrap .u64 ((Int.fdiv x1 (2 ^ (min 32 (IntKind.bits .u64))))*(IntKind.wrap .u64 (((BitVec.ofInt (IntKind.bits .u64) y2 &&& BitVec.ofInt (IntKind.bits .u64) 4294967295).toNat:Nat):Int))))+(Int.fdiv (IntKind.wrap .u64 ((IntKind.wrap .u64 (((BitVec.ofInt (IntKind.bits .u64) x1 &&& BitVec.ofInt (IntKind.bits .u64) 4294967295).toNat:Nat):Int))*(IntKind.wrap .u64 (((BitVec.ofInt (IntKind.bits .u64) y2 &&& BitVec.ofInt (IntKind.bits .u64) 4294967295).toNat:Nat):Int)))) (2 ^ (min 32 (IntKind.bits .u64)))))) (2 ^ (min 32 (IntKind.bits .u64))))))+(Int.fdiv (IntKind.wrap .u64 ((IntKind.wrap .u64 (((BitVec.ofInt (IntKind.bits .u64) (IntKind.wrap .u64 ((IntKind.wrap .u64 ((Int.fdiv x1 (2 ^ (min 32 (IntKind.bits .u64))))*(IntKind.wrap .u64 (((BitVec.ofInt (IntKind.bits .u64) y2 &&& BitVec.ofInt (IntKind.bits .u64) 4294967295).toNat:Nat):Int))))+(Int.fdiv (IntKind.wrap .u64 ((IntKind.wrap .u64 (((BitVec.ofInt (IntKind.bits .u64) x1 &&& BitVec.ofInt (IntKind.bits .u64) 4294967295).toNat:Nat):Int))*(IntKind.wrap .u64 (((BitVec.ofInt (IntKind.bits .u64) y2 &&& BitVec.ofInt (IntKind.bits .u64) 4294967295).toNat:Nat):Int)))) (2 ^ (min 32 (IntKind.bits .u64)))))) &&& BitVec.ofInt (IntKind.bits .u64) 4294967295).toNat:Nat):Int))+(IntKind.wrap .u64 ((IntKind.wrap .u64 (((BitVec.ofInt (IntKind.bits .u64) x1 &&& BitVec.ofInt (IntKind.bits .u64) 4294967295).toNat:Nat):Int))*(Int.fdiv y2 (2 ^ (min 32 (IntKind.bits .u64)))))))) (2 ^ (min 32 (IntKind.bits .u64))))),IntKind.wrap .u64 (x1*y2))
def Qt6 (fu:Nat) (x1:Int) (y2:Int):Option (Int×Int) :=
  Qac (Qtu fu x1 y2) λx3=>some (x3.1,x3.2)
def Qmf (fu:Nat)   (k3:List Int→Int→Option ((List Int))) (Aa:List Int) (Ab:Int):Option ((List Int)) :=
  bif (decide (Ab<(Aa.length:Int))) then Qac (sls Aa Ab (Aa.length:Int)) λAd=>Qac (sls Aa 0 Ab) λAc=>k3 (cpd Aa Ab Ac) (w64 (Ab+(cpn Aa Ab Ac))) else some (Aa)
def Qf9 (fu:Nat)   : Nat→List Int→Int→Option ((List Int))
  | 0=>λ_ _=>none
  | n+1=>Qmf fu  (Qf9 fu  n)
def Qbs (fu:Nat) (x1:List Int) (x8:Int×Int)  : Option ((List Int)) :=
  Qac (mk 8 (0:Int) (w64 x8.2)) λAa=>Qf9 fu fu (cpd Aa 0 x1) (cpn Aa 0 x1)
def Qf8 (fu:Nat) (x1:List Int) (Aa:Int)  : Option ((List Int)) :=
  Qac (Qt6 fu (IntKind.wrap .u64 (x1.length:Int)) (IntKind.wrap .u64 Aa)) λx8=>bif (decide (x8.1>0)) then none else bif (decide (x8.2>9223372036854775807)) then none else Qbs fu x1 x8
def Qfu (fu:Nat) (x1:List Int) (Aa:Int):Option ((List Int)) :=
  bif (decide (Aa<0)) then none else Qf8 fu x1 Aa
def Qnt (fu:Nat)  (r1:Request) (k1:List Int→Int→Option ((List Int))) (Ab:List Int) (Aa:Int):Option ((List Int)) :=
  bif (decide (Aa<(r1.fV.length:Int))) then Qac (ix r1.fV Aa) λAc=>Qac (Qfu fu (([Aa]:List Int)) Ac.fF) λAd=>Qac (Qfi 8 Ab Ad) λAe=>k1 Ae (w64 (Aa+1)) else some (Ab)
def Qhk (fu:Nat)  (r1:Request):Nat→List Int→Int→Option ((List Int))
  | 0=>λ_ _=>none
  | n+1=>Qnt fu r1 (Qhk fu r1 n)
def Qm4 (fu:Nat) (r1:Request):Option ((List Int)) :=
  Qac (Qf0 fu r1) λAa=>bif (!Aa) then some (([]:List Int)) else Qhk fu r1 fu (([]:List Int)) 0
def Qfr (fu:Nat)  (Ab:List Int) (v5:Int) (k1:Int→Option (Int)) (Aa:Int):Option (Int) :=
  bif (decide (Aa<(Ab.length:Int))) then Qac (ix Ab Aa) λAc=>bif (v5==Ac) then some (Aa) else k1 (w64 (Aa+1)) else some ((-1))
def Qcu (fu:Nat)  (Aa:List Int) (v5:Int):Nat→Int→Option (Int)
  | 0=>λ_=>none
  | n+1=>Qfr fu Aa v5 (Qcu fu Aa v5 n)
def Qhr (fu:Nat) (Aa:List Int) (v5:Int):Option (Int) :=
  Qcu fu Aa v5 fu 0
def Qel (fu:Nat) (Aa:List Int) (v5:Int):Option (Bool) :=
  Qac (Qhr fu Aa v5) λx6=>some (decide (x6≥0))
def Qje (fu:Nat) (k3:List Int→Int→Option ((List Int))) (Ab:Int) (Aa:List Int):Option ((List Int)) :=
  k3 Aa (w64 (Ab+1))
def Qk5 (fu:Nat)  (r1:Request) (Af:Int) (Ah:(List (List Int))) (Ac:(List Int)) (k3:List Int→Int→Option ((List Int))) (Ab:List Int) (Aa:Int):Option ((List Int)) :=
  bif (decide (Aa<(Ac.length:Int))) then Qac (ix Ac Aa) λAi=>Qac (ix Ah Af) λAd=>Qac (ix r1.fV Ai) λAe=>Qac (Qel fu Ad Ae.fM) λAj=>bif Aj then Qac (Qfi 8 Ab (([Aa]:List Int))) λAg=>Qje fu k3 Aa Ag else Qje fu k3 Aa Ab else some (Ab)
def Qfa (fu:Nat)  (r1:Request) (Aa:Int) (Ac:(List (List Int))) (Ab:(List Int)):Nat→List Int→Int→Option ((List Int))
  | 0=>λ_ _=>none
  | n+1=>Qk5 fu r1 Aa Ac Ab (Qfa fu r1 Aa Ac Ab n)
def Qos (fu:Nat) (r1:Request) (Aa:Int):Option ((List Int)) :=
  Qac (Qhh fu r1) λAb=>Qac (Qaz fu Aa 0 (w64 ((Ab.length:Int) - 1))) λAd=>bif (!Ad) then some (([]:List Int)) else Qac (Qm4 fu r1) λAc=>Qfa fu r1 Aa Ab Ac fu (([]:List Int)) 0
def Qpc (fu:Nat) (u1:Int) (x2:Int):Option (Bool) :=
  Qac (Qaz fu u1 0 (w64 (x2 - 1))) λx5=>some (!x5)
def Qc8 (fu:Nat) (k3:List Int→Int→Int→Option ((List Int))) (Ab:Int) (Ac:List Int) (Aa:Int):Option ((List Int)) :=
  k3 Ac Aa (w64 (Ab+1))
def Qdz (fu:Nat)  (f5:Int→Option Bool) (k3:List Int→Int→Int→Option ((List Int))) (Aa:List Int) (Ab:Int) (Ac:Int):Option ((List Int)) :=
  bif (decide (Ac<(Aa.length:Int))) then Qac (ix Aa Ac) λAd=>Qac (f5 Ad) λAe=>bif (!Ae) then Qac (ix Aa Ab) λAh=>Qc8 fu k3 Ac (Qhn Aa Ab Ad) (w64 (Ab+1)) else Qc8 fu k3 Ac Aa Ab else Qac (sls Aa Ab (Aa.length:Int)) λAg=>Qac (sls (Q23 Aa Ab) 0 Ab) λAf=>some (Af)
def Qbi (fu:Nat)  (f5:Int→Option Bool):Nat→List Int→Int→Int→Option ((List Int))
  | 0=>λ_ _ _=>none
  | n+1=>Qdz fu f5 (Qbi fu f5 n)
def Qd2 (fu:Nat) (Ab:List Int) (f5:Int→Option Bool):Option ((List Int)) :=
  Qac (Qc9 fu Ab f5) λAa=>bif (Aa==((-1))) then some (Ab) else Qbi fu f5 fu Ab Aa (w64 (Aa+1))
def Qii (fu:Nat) (r1:Request) (Ac:List Int):Option ((List Int)) :=
  Qac (Qm4 fu r1) λAe=>Qac (Qcx fu Ac) λAb=>Qac (Qd2 fu Ab (λAa=>Qpc fu Aa (Ae.length:Int))) λAd=>some (Ad)
def Qi7 (fu:Nat) (k3:List Item→Int→Option ((List Item))) (Ab:Int) (Aa:List Item):Option ((List Item)) :=
  k3 Aa (w64 (Ab+1))
def Qla (fu:Nat)  (r1:Request) (Ad:List Int) (Ae:(List Int)) (k3:List Item→Int→Option ((List Item))) (Ab:List Item) (Aa:Int):Option ((List Item)) :=
  bif (decide (Aa<(Ad.length:Int))) then Qac (ix Ad Aa) λAc=>Qac (Qaz fu Ac 0 (w64 ((Ae.length:Int) - 1))) λAh=>bif Ah then Qac (ix Ae Ac) λAi=>Qac (ix r1.fV Ai) λAf=>Qac (Qfi 56 Ab (([Af]:List Item))) λAg=>Qi7 fu k3 Aa Ag else Qi7 fu k3 Aa Ab else some (Ab)
def Qe6 (fu:Nat)  (r1:Request) (Aa:List Int) (Ab:(List Int)):Nat→List Item→Int→Option ((List Item))
  | 0=>λ_ _=>none
  | n+1=>Qla fu r1 Aa Ab (Qe6 fu r1 Aa Ab n)
def Qig (fu:Nat) (r1:Request) (Aa:List Int):Option ((List Item)) :=
  Qac (Qm4 fu r1) λAb=>Qe6 fu r1 Aa Ab fu (([]:List Item)) 0
def Qpa (fu:Nat) (Aa:Int) (h2:Int) (d3:Int)  : Option (Int) :=
  some (w64 ((w64 (Aa*h2))*d3))
def Qnn (fu:Nat) (Aa:Int) (h2:Int) (d3:Int):Option (Int) :=
  Qac (Qaz fu Aa 0 2000) λAd=>bif (!Ad) then some (0) else Qac (Qaz fu h2 0 2000) λAc=>bif (!Ac) then some (0) else Qac (Qaz fu d3 0 2000) λAb=>bif (!Ab) then some (0) else Qpa fu Aa h2 d3
def Qiw (fu:Nat)  (Ac:(List Item)) (k1:Int→Int→Option (Int)) (Ad:Int) (Ab:Int):Option (Int) :=
  bif (decide (Ab<(Ac.length:Int))) then Qac (ix Ac Ab) λAa=>Qac (Qnn fu Aa.fW Aa.fH Aa.fD) λAe=>k1 (w64 (Ad+Ae)) (w64 (Ab+1)) else some (Ad)
def Qfk (fu:Nat)  (Aa:(List Item)):Nat→Int→Int→Option (Int)
  | 0=>λ_ _=>none
  | n+1=>Qiw fu Aa (Qfk fu Aa n)
def Qjp (fu:Nat) (r1:Request) (Aa:List Int):Option (Int) :=
  Qac (Qig fu r1 Aa) λAb=>Qfk fu Ab fu 0 0
def Qme (fu:Nat)  (Ac:(List Item)) (k1:Int→Int→Option (Int)) (Ab:Int) (Aa:Int):Option (Int) :=
  bif (decide (Aa<(Ac.length:Int))) then Qac (ix Ac Aa) λAd=>k1 (w64 (Ab+Ad.fQ)) (w64 (Aa+1)) else some (Ab)
def Qg3 (fu:Nat)  (Aa:(List Item)):Nat→Int→Int→Option (Int)
  | 0=>λ_ _=>none
  | n+1=>Qme fu Aa (Qg3 fu Aa n)
def Qnv (fu:Nat) (r1:Request) (Aa:List Int):Option (Int) :=
  Qac (Qig fu r1 Aa) λAb=>Qg3 fu Ab fu 0 0
def Qoc (fu:Nat) (r1:Request) (Aa:List Int) (t9:Typ):Option (Bool) :=
  Qac (Qjp fu r1 Aa) λAd=>Qac (Qnn fu t9.fW t9.fH t9.fD) λAb=>bif (decide (Ad≤Ab)) then Qac (Qnv fu r1 Aa) λAc=>some (decide (Ac≤t9.fQ)) else some (false)
def Qqw (fu:Nat) (r1:Request) (Aa:List Int) (u9:Int):Option (Bool) :=
  Qac (Qhg fu r1) λAc=>Qac (Qf0 fu r1) λAe=>bif Ae then Qac (Qcx fu Aa) λAd=>Qac (Qfi 8 Ad (([u9]:List Int))) λAb=>Qac (Qoc fu r1 Ab Ac.1) λAf=>some (Af) else some (false)
def Qhc (fu:Nat) (k3:List (List Int)→Int→Option ((List (List Int)))) (Ab:Int) (Aa:List (List Int)):Option ((List (List Int))) :=
  k3 Aa (w64 (Ab+1))
def Qk8 (fu:Nat)  (r1:Request) (Ad:(List Int)) (k3:List (List Int)→Int→Option ((List (List Int)))) (Aa:List (List Int)) (Ab:Int):Option ((List (List Int))) :=
  bif (decide (Ab<(Ad.length:Int))) then Qac (ix Ad Ab) λAc=>bif (decide ((w64 ((Aa.length:Int) - 1))≥0)) then Qac (ix Aa (w64 ((Aa.length:Int) - 1))) λAe=>Qac (Qqw fu r1 Ae Ac) λAf=>bif Af then Qac (ix Aa (w64 ((Aa.length:Int) - 1))) λAj=>Qac (Qfi 8 Ae (([Ac]:List Int))) λAi=>Qac (ix Aa (w64 ((Aa.length:Int) - 1))) λAk=>Qhc fu k3 Ab (Qhn Aa (w64 ((Aa.length:Int) - 1)) Ai) else Qac (Qfi 24 Aa [([Ac]:List Int)]) λAh=>Qhc fu k3 Ab Ah else Qac (Qfi 24 Aa [([Ac]:List Int)]) λAg=>Qhc fu k3 Ab Ag else some (Aa)
def Qee (fu:Nat)  (r1:Request) (Aa:(List Int)):Nat→List (List Int)→Int→Option ((List (List Int)))
  | 0=>λ_ _=>none
  | n+1=>Qk8 fu r1 Aa (Qee fu r1 Aa n)
def Qoq (fu:Nat) (r1:Request) (Aa:List Int):Option ((List (List Int))) :=
  Qac (Qii fu r1 Aa) λAb=>Qee fu r1 Ab fu (([]:List (List Int))) 0
def Qmw (fu:Nat)  (n1:Int) (k1:List Int→Int→Option ((List Int))) (Ab:List Int) (Aa:Int):Option ((List Int)) :=
  bif (decide (Aa<n1)) then Qac (Qfi 8 Ab (([Aa]:List Int))) λAc=>k1 Ac (w64 (Aa+1)) else some (Ab)
def Qg2 (fu:Nat)  (n1:Int):Nat→List Int→Int→Option ((List Int))
  | 0=>λ_ _=>none
  | n+1=>Qmw fu n1 (Qg2 fu n1 n)
def Qqp (fu:Nat) (n1:Int):Option ((List Int)) :=
  Qg2 fu n1 fu (([]:List Int)) 0
def Qom (fu:Nat) (a1:Int) (b2:Int):Option (Int) :=
  bif (decide (a1<b2)) then some ((-1)) else bif (decide (a1>b2)) then some (1) else some (0)
def Qe7 (fu:Nat) (i1:Int) (j2:Int) (x3:List Int):Option (Int) :=
  Qac (ix x3 j2) λAb=>Qac (ix x3 i1) λAc=>Qac (Qom fu Ab Ac) λAa=>some (Aa)
def Qc5 (fu:Nat) (Ad:List Int→Int→Option ((List Int))) (Ab:List Int) (Aa:Int)  : Option ((List Int)) :=
  Qac (ix Ab (w64 (Aa - 1))) λAc=>Qac (ix Ab Aa) λAe=>Qac (ix Ab Aa) λAf=>Qac (ix (Qhn Ab Aa Ac) (w64 (Aa - 1))) λAg=>Ad (Qhn (Qhn Ab Aa Ac) (w64 (Aa - 1)) Ae) (w64 (Aa - 1))
def Qcv (fu:Nat) (k9:List Int→Int→Option ((List Int))) (a5:Int) (f7:Int→Int→Option Int) (Ac:Int) (Ae:List Int→Int→Option ((List Int))) (Aa:List Int) (Ab:Int):Option ((List Int)) :=
  bif (decide (Ab>a5)) then Qac (ix Aa Ab) λAf=>Qac (ix Aa (w64 (Ab - 1))) λAg=>Qac (f7 Af Ag) λAd=>bif (decide (Ad<0)) then Qc5 fu Ae Aa Ab else k9 Aa (w64 (Ac+1)) else k9 Aa (w64 (Ac+1))
def Qa7 (fu:Nat) (k9:List Int→Int→Option ((List Int))) (a5:Int) (f7:Int→Int→Option Int) (Aa:Int):Nat→List Int→Int→Option ((List Int))
  | 0=>λ_ _=>none
  | n+1=>Qcv fu k9 a5 f7 Aa (Qa7 fu k9 a5 f7 Aa n)
def Qby (fu:Nat)  (a5:Int) (b6:Int) (f7:Int→Int→Option Int) (k9:List Int→Int→Option ((List Int))) (Ab:List Int) (Aa:Int):Option ((List Int)) :=
  bif (decide (Aa<b6)) then Qa7 fu k9 a5 f7 Aa fu Ab Aa else some (Ab)
def Qap (fu:Nat)  (a5:Int) (b6:Int) (f7:Int→Int→Option Int):Nat→List Int→Int→Option ((List Int))
  | 0=>λ_ _=>none
  | n+1=>Qby fu a5 b6 f7 (Qap fu a5 b6 f7 n)
def Qb4 (fu:Nat) (Aa:List Int) (a5:Int) (b6:Int) (f7:Int→Int→Option Int):Option ((List Int)) :=
  Qap fu a5 b6 f7 fu Aa (w64 (a5+1))
def Qg7 (fu:Nat) (x0:List Int) (x1:Int) (x2:Int) (x3:Int) (x4:Int→Int→Option Int):Option ((List Int)):=none
def Qet (fu:Nat) (k6:List Int→Int→Option ((List Int))) (Ab:Int) (Aa:List Int):Option ((List Int)) :=
  k6 Aa (w64 (Ab*2))
def Qji (fu:Nat) (k6:List Int→Int→Option ((List Int))) (n5:Int) (f6:Int→Int→Option Int) (Aa:Int) (k7:List Int→Int→Int→Option ((List Int))) (Ad:List Int) (Ab:Int) (Ac:Int):Option ((List Int)) :=
  bif (decide (Ac≤n5)) then Qac (Qg7 fu Ad Ab (w64 (Ab+Aa)) Ac f6) λAe=>k7 Ae Ac (w64 (Ac+(w64 (2*Aa)))) else bif (decide ((w64 (Ab+Aa))<n5)) then Qac (Qg7 fu Ad Ab (w64 (Ab+Aa)) n5 f6) λAf=>Qet fu k6 Aa Af else Qet fu k6 Aa Ad
def Qep (fu:Nat) (k6:List Int→Int→Option ((List Int))) (n5:Int) (f6:Int→Int→Option Int) (Aa:Int):Nat→List Int→Int→Int→Option ((List Int))
  | 0=>λ_ _ _=>none
  | n+1=>Qji fu k6 n5 f6 Aa (Qep fu k6 n5 f6 Aa n)
def Qgo (fu:Nat)  (n5:Int) (f6:Int→Int→Option Int) (k6:List Int→Int→Option ((List Int))) (Ab:List Int) (Aa:Int):Option ((List Int)) :=
  bif (decide (Aa<n5)) then Qep fu k6 n5 f6 Aa fu Ab 0 (w64 (2*Aa)) else some (Ab)
def Qb8 (fu:Nat)  (n5:Int) (f6:Int→Int→Option Int):Nat→List Int→Int→Option ((List Int))
  | 0=>λ_ _=>none
  | n+1=>Qgo fu n5 f6 (Qb8 fu n5 f6 n)
def Qgk (fu:Nat)  (n5:Int) (f6:Int→Int→Option Int) (k1:List Int→Int→Int→Option ((List Int))) (Ac:List Int) (Ab:Int) (Aa:Int):Option ((List Int)) :=
  bif (decide (Aa≤n5)) then Qac (Qb4 fu Ac Ab Aa f6) λAe=>k1 Ae Aa (w64 (Aa+20)) else Qac (Qb4 fu Ac Ab n5 f6) λAd=>Qb8 fu n5 f6 fu Ad 20
def Qda (fu:Nat)  (n5:Int) (f6:Int→Int→Option Int):Nat→List Int→Int→Int→Option ((List Int))
  | 0=>λ_ _ _=>none
  | n+1=>Qgk fu n5 f6 (Qda fu n5 f6 n)
def Qga (fu:Nat) (Aa:List Int) (n5:Int) (f6:Int→Int→Option Int):Option ((List Int)) :=
  Qda fu n5 f6 fu Aa 0 20
def Qeb (fu:Nat) (x1:List Int) (f5:Int→Int→Option Int):Option ((List Int)) :=
  Qac (Qga fu x1 (x1.length:Int) f5) λAa=>some (Aa)
def Qgw (fu:Nat) (Aa:List Int):Option ((List Int)) :=
  Qac (Qqp fu (Aa.length:Int)) λx8=>Qac (Qeb fu x8 (λAc Ab=>Qe7 fu Ac Ab Aa)) λAd=>some (Ad)
def Qi3 (fu:Nat) (l1:List Int) (x5:Request) (Aa:Int):Option (Bool) :=
  Qac (Qqw fu x5 l1 Aa) λAb=>some (Ab)
def Qhz (fu:Nat) (k4:List (List Int)→Int→Option ((List (List Int)))) (Aa:Int) (Ab:List (List Int)):Option ((List (List Int))) :=
  k4 Ab (w64 (Aa+1))
def Qil (fu:Nat)  (r1:Request) (Aj:(List Int)) (Ae:(List Int)) (k4:List (List Int)→Int→Option ((List (List Int)))) (Aa:List (List Int)) (Ab:Int):Option ((List (List Int))) :=
  bif (decide (Ab<(Ae.length:Int))) then Qac (ix Ae Ab) λAk=>Qac (ix Aj Ak) λAd=>Qac (Qc1 fu Aa (λAf=>Qi3 fu Af r1 Ad)) λAc=>bif (decide (Ac<0)) then Qac (Qfi 24 Aa [([Ad]:List Int)]) λAg=>Qhz fu k4 Ab Ag else Qac (ix Aa Ac) λAh=>Qac (Qfi 8 Ah (([Ad]:List Int))) λAi=>Qac (ix Aa Ac) λAl=>Qhz fu k4 Ab (Qhn Aa Ac Ai) else some (Aa)
def Qcs (fu:Nat)  (r1:Request) (Ab:(List Int)) (Aa:(List Int)):Nat→List (List Int)→Int→Option ((List (List Int)))
  | 0=>λ_ _=>none
  | n+1=>Qil fu r1 Ab Aa (Qcs fu r1 Ab Aa n)
def Qiu (fu:Nat)  (r1:Request) (Aa:(List Int)) (k1:List Int→Int→Option ((List (List Int)))) (Ac:List Int) (Ab:Int):Option ((List (List Int))) :=
  bif (decide (Ab<(Aa.length:Int))) then Qac (ix Aa Ab) λAf=>Qac (Qjp fu r1 (([Af]:List Int))) λAg=>Qac (Qfi 8 Ac (([Ag]:List Int))) λAe=>k1 Ae (w64 (Ab+1)) else Qac (Qgw fu Ac) λAd=>Qcs fu r1 Aa Ad fu (([]:List (List Int))) 0
def Qfj (fu:Nat)  (r1:Request) (Aa:(List Int)):Nat→List Int→Int→Option ((List (List Int)))
  | 0=>λ_ _=>none
  | n+1=>Qiu fu r1 Aa (Qfj fu r1 Aa n)
def Qne (fu:Nat) (r1:Request) (Aa:List Int):Option ((List (List Int))) :=
  Qac (Qii fu r1 Aa) λAb=>Qfj fu r1 Ab fu (([]:List Int)) 0
def Qoy (fu:Nat) (r1:Request) (Aa:List Int):Option ((List (List Int))) :=
  bif (r1.ff==1) then Qac (Qoq fu r1 Aa) λAb=>some (Ab) else Qac (Qne fu r1 Aa) λAc=>some (Ac)
def Qq6 (fu:Nat) (x1:Item) (x2:Typ):Option (Bool) :=
  Qac (Qqs fu x1 x2) λx8=>some (!x8)
def Qqg (fu:Nat) (r1:Request) (Aa:List Int) (t9:Typ)  : Option (Bool) :=
  Qac (Qig fu r1 Aa) λAd=>Qac (Qa4 fu Ad (λAb=>Qq6 fu Ab t9)) λAc=>bif (!Ac) then Qac (Qoc fu r1 Aa t9) λAe=>some (Ae) else some (false)
def Qra (fu:Nat) (r1:Request) (Aa:List Int) (t9:Typ):Option (Bool) :=
  Qac (Qf0 fu r1) λAc=>bif (!Ac) then some (false) else Qac (Qii fu r1 Aa) λAb=>bif ((Ab.length:Int) != (Aa.length:Int)) then some (false) else Qqg fu r1 Aa t9
def Qdv (fu:Nat) (k3:Typ→Bool→Int→Option (Typ×Bool)) (Ac:Int) (Aa:Typ) (Ab:Bool):Option (Typ×Bool) :=
  k3 Aa Ab (w64 (Ac+1))
def Qi0 (fu:Nat)  (r1:Request) (Ae:List Int) (k3:Typ→Bool→Int→Option (Typ×Bool)) (Ab:Typ) (Ad:Bool) (Aa:Int):Option (Typ×Bool) :=
  bif (decide (Aa<(r1.fG.length:Int))) then Qac (ix r1.fG Aa) λAc=>Qac (Qra fu r1 Ae Ac) λAf=>bif (!Af) then Qdv fu k3 Aa Ab Ad else bif (!Ad) then Qdv fu k3 Aa Ac true else bif (decide (Ac.fL<Ab.fL)) then Qdv fu k3 Aa Ac true else bif (Ac.fL==Ab.fL) then bif (decide (Ac.f8<Ab.f8)) then Qdv fu k3 Aa Ac true else Qdv fu k3 Aa Ab Ad else Qdv fu k3 Aa Ab Ad else some (Ab,Ad)
def Qei (fu:Nat)  (r1:Request) (Aa:List Int):Nat→Typ→Bool→Int→Option (Typ×Bool)
  | 0=>λ_ _ _=>none
  | n+1=>Qi0 fu r1 Aa (Qei fu r1 Aa n)
def Qm1 (fu:Nat) (r1:Request) (Aa:List Int):Option (Typ×Bool) :=
  Qei fu r1 Aa fu (⟨0,0,0,0,0,0,0⟩:Typ) false 0
def Qh0 (fu:Nat) (k3:List Carton→Int→Option ((List Carton))) (r1:Request) (Ac:Int) (Ae:(List (List Int))) (k4:List Carton→Int→Option ((List Carton))) (Ab:List Carton) (Aa:Int):Option ((List Carton)) :=
  bif (decide (Aa<(Ae.length:Int))) then Qac (ix Ae Aa) λAd=>Qac (Qm1 fu r1 Ad) λAh=>Qac (Qc7 fu Ad) λAf=>Qac (Qfi 40 Ab [(⟨Ah.1.f8,Ac,Af⟩:Carton)]) λAg=>k4 Ag (w64 (Aa+1)) else k3 Ab (w64 (Ac+1))
def Qev (fu:Nat) (k3:List Carton→Int→Option ((List Carton))) (r1:Request) (Ab:Int) (Aa:(List (List Int))):Nat→List Carton→Int→Option ((List Carton))
  | 0=>λ_ _=>none
  | n+1=>Qh0 fu k3 r1 Ab Aa (Qev fu k3 r1 Ab Aa n)
def Qh7 (fu:Nat)  (r1:Request) (Ac:(List (List Int))) (k3:List Carton→Int→Option ((List Carton))) (Ab:List Carton) (Aa:Int):Option ((List Carton)) :=
  bif (decide (Aa<(Ac.length:Int))) then Qac (Qos fu r1 Aa) λAe=>Qac (Qoy fu r1 Ae) λAd=>Qev fu k3 r1 Aa Ad fu Ab 0 else some (Ab)
def Qct (fu:Nat)  (r1:Request) (Aa:(List (List Int))):Nat→List Carton→Int→Option ((List Carton))
  | 0=>λ_ _=>none
  | n+1=>Qh7 fu r1 Aa (Qct fu r1 Aa n)
def Qll (fu:Nat) (r1:Request):Option ((List Carton)) :=
  Qac (Qhh fu r1) λAa=>Qct fu r1 Aa fu (([]:List Carton)) 0
def Qqe (fu:Nat) (r1:Request) (x5:Carton) (Ab:Typ×Bool)  : Option (Int) :=
  Qac (Qnv fu r1 x5.f9) λAa=>some (w64 (Ab.1.fO+Aa))
def Qrc (fu:Nat) (r1:Request) (x5:Carton):Option (Int) :=
  Qac (Qhm fu r1 x5.fe) λAa=>bif (!Aa.2) then some (0) else Qac (Qf0 fu r1) λAb=>bif (!Ab) then some (0) else Qqe fu r1 x5 Aa
def Qp5 (fu:Nat) (r1:Request) (x5:Carton) (Aa:Typ×Bool)  : Option (Box) :=
  Qac (Qrc fu r1 x5) λAb=>some (⟨Aa.1.fW,Aa.1.fD,Aa.1.fH,Ab⟩:Box)
def Qq7 (fu:Nat) (r1:Request) (x5:Carton):Option (Box) :=
  Qac (Qhm fu r1 x5.fe) λAa=>bif (!Aa.2) then some (⟨0,0,0,0⟩:Box) else Qac (Qf0 fu r1) λAb=>bif (!Ab) then some (⟨0,0,0,0⟩:Box) else Qp5 fu r1 x5 Aa
def Qlk (fu:Nat) (b1:Box) (x2:Pallet):Option (Bool) :=
  Qac (Qaz fu b1.fW 1 x2.fW) λx8=>bif (!x8) then some (true) else Qac (Qaz fu b1.fD 1 x2.fD) λAb=>bif (!Ab) then some (true) else Qac (Qaz fu b1.fH 1 x2.fH) λAa=>bif (!Aa) then some (true) else Qac (Qaz fu b1.fQ 1 x2.fQ) λAc=>some (!Ac)
def Qck (fu:Nat)  (Ab:List Box) (f5:Box→Option Bool) (k1:Int→Option (Int)) (Aa:Int):Option (Int) :=
  bif (decide (Aa<(Ab.length:Int))) then Qac (ix Ab Aa) λAd=>Qac (f5 Ad) λAc=>bif Ac then some (Aa) else k1 (w64 (Aa+1)) else some ((-1))
def Qax (fu:Nat)  (Aa:List Box) (f5:Box→Option Bool):Nat→Int→Option (Int)
  | 0=>λ_=>none
  | n+1=>Qck fu Aa f5 (Qax fu Aa f5 n)
def Qc2 (fu:Nat) (Aa:List Box) (f5:Box→Option Bool):Option (Int) :=
  Qax fu Aa f5 fu 0
def Qbx (fu:Nat) (Ab:List Box) (f5:Box→Option Bool):Option (Bool) :=
  Qac (Qc2 fu Ab f5) λAa=>some (decide (Aa≥0))
def Ql1 (fu:Nat) (p1:Pallet) (Ad:List Box):Option (Bool) :=
  Qac (Qem fu p1) λAb=>bif Ab then Qac (Qbx fu Ad (λAc=>Qlk fu Ac p1)) λAa=>some (!Aa) else some (false)
def Qn8 (fu:Nat) (k8:List Shelf→Int→Option ((List Shelf))) (Aa:Int) (Ab:List Shelf):Option ((List Shelf)) :=
  k8 Ab (w64 (Aa+1))
def Qdh (fu:Nat) (k8:List Shelf→Int→Option ((List Shelf))) (Ak:Int) (Ai:Int) (Ac:Box) (Ag:List Shelf) (Af:Int):Option ((List Shelf)) :=
  Qac (ix Ag Af) λAb=>Qac (Qfi 8 Ab.f0 (([Ai]:List Int))) λAd=>Qac (some ((⟨(⟨Ad,Ab.fW,Ab.fD,Ab.fH,Ab.fQ⟩:Shelf).f0,w64 (((⟨Ad,Ab.fW,Ab.fD,Ab.fH,Ab.fQ⟩:Shelf).fW)+Ac.fW),(⟨Ad,Ab.fW,Ab.fD,Ab.fH,Ab.fQ⟩:Shelf).fD,(⟨Ad,Ab.fW,Ab.fD,Ab.fH,Ab.fQ⟩:Shelf).fH,(⟨Ad,Ab.fW,Ab.fD,Ab.fH,Ab.fQ⟩:Shelf).fQ⟩:Shelf))) λAa=>Qac (some (Qhn (Qhn Ag Af (⟨Ad,Ab.fW,Ab.fD,Ab.fH,Ab.fQ⟩:Shelf)) Af Aa)) λAj=>Qac (some ((⟨(⟨Aa.f0,Aa.fW,if Ac.fD>Aa.fD then Ac.fD else Aa.fD,Aa.fH,Aa.fQ⟩:Shelf).f0,(⟨Aa.f0,Aa.fW,if Ac.fD>Aa.fD then Ac.fD else Aa.fD,Aa.fH,Aa.fQ⟩:Shelf).fW,(⟨Aa.f0,Aa.fW,if Ac.fD>Aa.fD then Ac.fD else Aa.fD,Aa.fH,Aa.fQ⟩:Shelf).fD,if Ac.fH>((⟨Aa.f0,Aa.fW,if Ac.fD>Aa.fD then Ac.fD else Aa.fD,Aa.fH,Aa.fQ⟩:Shelf).fH) then Ac.fH else (⟨Aa.f0,Aa.fW,if Ac.fD>Aa.fD then Ac.fD else Aa.fD,Aa.fH,Aa.fQ⟩:Shelf).fH,(⟨Aa.f0,Aa.fW,if Ac.fD>Aa.fD then Ac.fD else Aa.fD,Aa.fH,Aa.fQ⟩:Shelf).fQ⟩:Shelf))) λAe=>Qac (some (Qhn (Qhn Aj Af (⟨Aa.f0,Aa.fW,if Ac.fD>Aa.fD then Ac.fD else Aa.fD,Aa.fH,Aa.fQ⟩:Shelf)) Af Ae)) λAh=>Qn8 fu k8 Ak (Qhn Ah Af (⟨Ae.f0,Ae.fW,Ae.fD,Ae.fH,w64 (Ae.fQ+Ac.fQ)⟩:Shelf))
def Qjw (fu:Nat)  (p1:Pallet) (Aj:List Box) (Ae:(List Int)) (k8:List Shelf→Int→Option ((List Shelf))) (Aa:List Shelf) (Ac:Int):Option ((List Shelf)) :=
  bif (decide (Ac<(Ae.length:Int))) then Qac (ix Ae Ac) λAd=>Qac (ix Aj Ad) λAb=>bif (decide ((w64 ((Aa.length:Int) - 1))<0)) then Qac (Qfi 56 Aa [(⟨[],0,0,0,0⟩:Shelf)]) λAi=>Qdh fu k8 Ac Ad Ab Ai (w64 ((w64 ((Aa.length:Int) - 1))+1)) else Qac (ix Aa (w64 ((Aa.length:Int) - 1))) λAf=>bif (decide ((w64 (Af.fW+Ab.fW))>p1.fW)) then Qac (Qfi 56 Aa [(⟨[],0,0,0,0⟩:Shelf)]) λAh=>Qdh fu k8 Ac Ad Ab Ah (w64 ((w64 ((Aa.length:Int) - 1))+1)) else Qac (ix Aa (w64 ((Aa.length:Int) - 1))) λAk=>bif (decide ((w64 (Af.fQ+Ab.fQ))>p1.fQ)) then Qac (Qfi 56 Aa [(⟨[],0,0,0,0⟩:Shelf)]) λAg=>Qdh fu k8 Ac Ad Ab Ag (w64 ((w64 ((Aa.length:Int) - 1))+1)) else Qdh fu k8 Ac Ad Ab Aa (w64 ((Aa.length:Int) - 1)) else some (Aa)
def Qb0 (fu:Nat)  (p1:Pallet) (Ab:List Box) (Aa:(List Int)):Nat→List Shelf→Int→Option ((List Shelf))
  | 0=>λ_ _=>none
  | n+1=>Qjw fu p1 Ab Aa (Qb0 fu p1 Ab Aa n)
def Qkz (fu:Nat)  (p1:Pallet) (Ab:List Box) (k1:List Int→Int→Option ((List Shelf))) (Ac:List Int) (Aa:Int):Option ((List Shelf)) :=
  bif (decide (Aa<(Ab.length:Int))) then Qac (ix Ab Aa) λAf=>Qac (Qfi 8 Ac (([Af.fD]:List Int))) λAd=>k1 Ad (w64 (Aa+1)) else Qac (Qgw fu Ac) λAe=>Qb0 fu p1 Ab Ae fu (([]:List Shelf)) 0
def Qgm (fu:Nat)  (p1:Pallet) (Aa:List Box):Nat→List Int→Int→Option ((List Shelf))
  | 0=>λ_ _=>none
  | n+1=>Qkz fu p1 Aa (Qgm fu p1 Aa n)
def Qok (fu:Nat) (p1:Pallet) (Aa:List Box):Option ((List Shelf)) :=
  Qac (Ql1 fu p1 Aa) λAb=>bif (!Ab) then some (([]:List Shelf)) else Qgm fu p1 Aa fu (([]:List Int)) 0
def Qml (fu:Nat) (Aa:Shelf) (x5:Pallet):Option (Bool) :=
  Qac (Qaz fu Aa.fD 1 x5.fD) λAc=>bif (!Ac) then some (true) else Qac (Qaz fu Aa.fH 1 x5.fH) λAb=>bif (!Ab) then some (true) else Qac (Qaz fu Aa.fQ 1 x5.fQ) λAd=>some (!Ad)
def Qb1 (fu:Nat)  (Ab:List Shelf) (f5:Shelf→Option Bool) (k1:Int→Option (Int)) (Aa:Int):Option (Int) :=
  bif (decide (Aa<(Ab.length:Int))) then Qac (ix Ab Aa) λAc=>Qac (f5 Ac) λAd=>bif Ad then some (Aa) else k1 (w64 (Aa+1)) else some ((-1))
def Qaq (fu:Nat)  (Aa:List Shelf) (f5:Shelf→Option Bool):Nat→Int→Option (Int)
  | 0=>λ_=>none
  | n+1=>Qb1 fu Aa f5 (Qaq fu Aa f5 n)
def Qcm (fu:Nat) (Aa:List Shelf) (f5:Shelf→Option Bool):Option (Int) :=
  Qaq fu Aa f5 fu 0
def Qbm (fu:Nat) (Ab:List Shelf) (f5:Shelf→Option Bool):Option (Bool) :=
  Qac (Qcm fu Ab f5) λAa=>some (decide (Aa≥0))
def Qlj (fu:Nat) (p1:Pallet) (Ad:List Shelf):Option (Bool) :=
  Qac (Qem fu p1) λAb=>bif Ab then Qac (Qbm fu Ad (λAc=>Qml fu Ac p1)) λAa=>some (!Aa) else some (false)
def Qmh (fu:Nat) (k7:List Layer→Int→Option ((List Layer))) (Aa:Int) (Ab:List Layer):Option ((List Layer)) :=
  k7 Ab (w64 (Aa+1))
def Qc3 (fu:Nat) (k7:List Layer→Int→Option ((List Layer))) (Ag:Int) (Ac:Shelf) (Af:List Layer) (Ae:Int):Option ((List Layer)) :=
  Qac (ix Af Ae) λAb=>Qac (Qfi 8 Ab.fP (([Ag]:List Int))) λAd=>Qac (some ((⟨(⟨Ad,Ab.fD,Ab.fH,Ab.fQ⟩:Layer).fP,w64 (((⟨Ad,Ab.fD,Ab.fH,Ab.fQ⟩:Layer).fD)+Ac.fD),(⟨Ad,Ab.fD,Ab.fH,Ab.fQ⟩:Layer).fH,(⟨Ad,Ab.fD,Ab.fH,Ab.fQ⟩:Layer).fQ⟩:Layer))) λAa=>Qac (some (Qhn (Qhn Af Ae (⟨Ad,Ab.fD,Ab.fH,Ab.fQ⟩:Layer)) Ae Aa)) λAj=>Qac (some ((⟨(⟨Aa.fP,Aa.fD,if Ac.fH>Aa.fH then Ac.fH else Aa.fH,Aa.fQ⟩:Layer).fP,(⟨Aa.fP,Aa.fD,if Ac.fH>Aa.fH then Ac.fH else Aa.fH,Aa.fQ⟩:Layer).fD,(⟨Aa.fP,Aa.fD,if Ac.fH>Aa.fH then Ac.fH else Aa.fH,Aa.fQ⟩:Layer).fH,w64 (((⟨Aa.fP,Aa.fD,if Ac.fH>Aa.fH then Ac.fH else Aa.fH,Aa.fQ⟩:Layer).fQ)+Ac.fQ)⟩:Layer))) λAh=>Qac (some (Qhn (Qhn Aj Ae (⟨Aa.fP,Aa.fD,if Ac.fH>Aa.fH then Ac.fH else Aa.fH,Aa.fQ⟩:Layer)) Ae Ah)) λAi=>Qmh fu k7 Ag Ai
def Qiz (fu:Nat)  (p1:Pallet) (Ad:List Shelf) (k7:List Layer→Int→Option ((List Layer))) (Aa:List Layer) (Ac:Int):Option ((List Layer)) :=
  bif (decide (Ac<(Ad.length:Int))) then Qac (ix Ad Ac) λAb=>bif (decide ((w64 ((Aa.length:Int) - 1))<0)) then Qac (Qfi 48 Aa [(⟨[],0,0,0⟩:Layer)]) λAh=>Qc3 fu k7 Ac Ab Ah (w64 ((w64 ((Aa.length:Int) - 1))+1)) else Qac (ix Aa (w64 ((Aa.length:Int) - 1))) λAe=>bif (decide ((w64 (Ae.fD+Ab.fD))>p1.fD)) then Qac (Qfi 48 Aa [(⟨[],0,0,0⟩:Layer)]) λAf=>Qc3 fu k7 Ac Ab Af (w64 ((w64 ((Aa.length:Int) - 1))+1)) else Qac (ix Aa (w64 ((Aa.length:Int) - 1))) λAi=>bif (decide ((w64 (Ae.fQ+Ab.fQ))>p1.fQ)) then Qac (Qfi 48 Aa [(⟨[],0,0,0⟩:Layer)]) λAg=>Qc3 fu k7 Ac Ab Ag (w64 ((w64 ((Aa.length:Int) - 1))+1)) else Qc3 fu k7 Ac Ab Aa (w64 ((Aa.length:Int) - 1)) else some (Aa)
def Qb2 (fu:Nat)  (p1:Pallet) (Aa:List Shelf):Nat→List Layer→Int→Option ((List Layer))
  | 0=>λ_ _=>none
  | n+1=>Qiz fu p1 Aa (Qb2 fu p1 Aa n)
def Qnh (fu:Nat) (p1:Pallet) (Aa:List Shelf):Option ((List Layer)) :=
  Qac (Qlj fu p1 Aa) λAb=>bif (!Ab) then some (([]:List Layer)) else Qb2 fu p1 Aa fu (([]:List Layer)) 0
def Qn7 (fu:Nat) (x1:Layer) (x5:Pallet):Option (Bool) :=
  Qac (Qaz fu x1.fD 1 x5.fD) λAb=>bif (!Ab) then some (true) else Qac (Qaz fu x1.fH 1 x5.fH) λAa=>bif (!Aa) then some (true) else Qac (Qaz fu x1.fQ 1 x5.fQ) λAc=>some (!Ac)
def Qbz (fu:Nat)  (Ab:List Layer) (f5:Layer→Option Bool) (k1:Int→Option (Int)) (Aa:Int):Option (Int) :=
  bif (decide (Aa<(Ab.length:Int))) then Qac (ix Ab Aa) λAc=>Qac (f5 Ac) λAd=>bif Ad then some (Aa) else k1 (w64 (Aa+1)) else some ((-1))
def Qar (fu:Nat)  (Aa:List Layer) (f5:Layer→Option Bool):Nat→Int→Option (Int)
  | 0=>λ_=>none
  | n+1=>Qbz fu Aa f5 (Qar fu Aa f5 n)
def Qcl (fu:Nat) (Aa:List Layer) (f5:Layer→Option Bool):Option (Int) :=
  Qar fu Aa f5 fu 0
def Qbl (fu:Nat) (Ab:List Layer) (f5:Layer→Option Bool):Option (Bool) :=
  Qac (Qcl fu Ab f5) λAa=>some (decide (Aa≥0))
def Qnj (fu:Nat) (p1:Pallet) (Ad:List Layer):Option (Bool) :=
  Qac (Qem fu p1) λAb=>bif Ab then Qac (Qbl fu Ad (λAc=>Qn7 fu Ac p1)) λAa=>some (!Aa) else some (false)
def Qno (fu:Nat) (k7:List Load→Int→Option ((List Load))) (Ab:Int) (Aa:List Load):Option ((List Load)) :=
  k7 Aa (w64 (Ab+1))
def Qdf (fu:Nat) (k7:List Load→Int→Option ((List Load))) (Af:Int) (Ae:Layer) (Ag:List Load) (Ac:Int):Option ((List Load)) :=
  Qac (ix Ag Ac) λAa=>Qac (Qfi 8 Aa.fK (([Af]:List Int))) λAb=>Qac (some ((⟨(⟨Ab,Aa.fH,Aa.fQ⟩:Load).fK,w64 (((⟨Ab,Aa.fH,Aa.fQ⟩:Load).fH)+Ae.fH),(⟨Ab,Aa.fH,Aa.fQ⟩:Load).fQ⟩:Load))) λAd=>Qac (some (Qhn (Qhn Ag Ac (⟨Ab,Aa.fH,Aa.fQ⟩:Load)) Ac Ad)) λAh=>Qno fu k7 Af (Qhn Ah Ac (⟨Ad.fK,Ad.fH,w64 (Ad.fQ+Ae.fQ)⟩:Load))
def Qjx (fu:Nat)  (p1:Pallet) (Ad:List Layer) (k7:List Load→Int→Option ((List Load))) (Aa:List Load) (Ac:Int):Option ((List Load)) :=
  bif (decide (Ac<(Ad.length:Int))) then Qac (ix Ad Ac) λAb=>bif (decide ((w64 ((Aa.length:Int) - 1))<0)) then Qac (Qfi 40 Aa [(⟨[],0,0⟩:Load)]) λAg=>Qdf fu k7 Ac Ab Ag (w64 ((w64 ((Aa.length:Int) - 1))+1)) else Qac (ix Aa (w64 ((Aa.length:Int) - 1))) λAe=>bif (decide ((w64 (Ae.fH+Ab.fH))>p1.fH)) then Qac (Qfi 40 Aa [(⟨[],0,0⟩:Load)]) λAf=>Qdf fu k7 Ac Ab Af (w64 ((w64 ((Aa.length:Int) - 1))+1)) else Qac (ix Aa (w64 ((Aa.length:Int) - 1))) λAi=>bif (decide ((w64 (Ae.fQ+Ab.fQ))>p1.fQ)) then Qac (Qfi 40 Aa [(⟨[],0,0⟩:Load)]) λAh=>Qdf fu k7 Ac Ab Ah (w64 ((w64 ((Aa.length:Int) - 1))+1)) else Qdf fu k7 Ac Ab Aa (w64 ((Aa.length:Int) - 1)) else some (Aa)
def Qch (fu:Nat)  (p1:Pallet) (Aa:List Layer):Nat→List Load→Int→Option ((List Load))
  | 0=>λ_ _=>none
  | n+1=>Qjx fu p1 Aa (Qch fu p1 Aa n)
def Qow (fu:Nat) (p1:Pallet) (Aa:List Layer):Option ((List Load)) :=
  Qac (Qnj fu p1 Aa) λAb=>bif (!Ab) then some (([]:List Load)) else Qch fu p1 Aa fu (([]:List Load)) 0
def Qkd (fu:Nat) (Aq:List Spot→Int→Int→Option ((List Spot))) (Aj:List Box) (Am:(List Shelf)) (Ak:Int) (Al:Int) (Ad:Int) (Ap:Int) (Ao:Int) (Af:Shelf) (Ai:List Spot→Int→Int→Option ((List Spot))) (Ac:List Spot) (Ae:Int) (Ab:Int):Option ((List Spot)) :=
  bif (decide (Ab<(Af.f0.length:Int))) then Qac (ix Af.f0 Ab) λAa=>Qac (ix Ac Aa) λAr=>Qac (ix Aj Aa) λAh=>Ai (Qhn Ac Aa (⟨Ak,Ae,Ad,Al⟩:Spot)) (w64 (Ae+Ah.fW)) (w64 (Ab+1)) else Qac (ix Am Ao) λAg=>Aq Ac (w64 (Ad+Ag.fD)) (w64 (Ap+1))
def Qgc (fu:Nat) (Ah:List Spot→Int→Int→Option ((List Spot))) (Ac:List Box) (Ae:(List Shelf)) (Ab:Int) (Ad:Int) (Aa:Int) (Ag:Int) (Af:Int) (Ai:Shelf):Nat→List Spot→Int→Int→Option ((List Spot))
  | 0=>λ_ _ _=>none
  | n+1=>Qkd fu Ah Ac Ae Ab Ad Aa Ag Af Ai (Qgc fu Ah Ac Ae Ab Ad Aa Ag Af Ai n)
def Qld (fu:Nat) (Ah:List Spot→Int→Int→Option ((List Spot))) (Aj:List Box) (Ae:(List Shelf)) (Ak:(List Layer)) (Al:Int) (Ad:Int) (Ai:Int) (Ao:Int) (Ab:Layer) (Ap:List Spot→Int→Int→Option ((List Spot))) (Ac:List Spot) (Ag:Int) (Aa:Int):Option ((List Spot)) :=
  bif (decide (Aa<(Ab.fP.length:Int))) then Qac (ix Ab.fP Aa) λAf=>Qac (ix Ae Af) λAq=>Qgc fu Ap Aj Ae Al Ad Ag Aa Af Aq fu Ac 0 0 else Qac (ix Ak Ao) λAm=>Ah Ac (w64 (Ad+Am.fH)) (w64 (Ai+1))
def Qdg (fu:Nat) (Ab:List Spot→Int→Int→Option ((List Spot))) (Af:List Box) (Ah:(List Shelf)) (Ae:(List Layer)) (Ad:Int) (Ag:Int) (Ac:Int) (Ai:Int) (Aa:Layer):Nat→List Spot→Int→Int→Option ((List Spot))
  | 0=>λ_ _ _=>none
  | n+1=>Qld fu Ab Af Ah Ae Ad Ag Ac Ai Aa (Qdg fu Ab Af Ah Ae Ad Ag Ac Ai Aa n)
def Qkl (fu:Nat) (Ai:List Spot→Int→Option ((List Spot))) (Aj:List Box) (Al:(List Shelf)) (Ac:(List Layer)) (Ad:Int) (Ab:Load) (Ah:List Spot→Int→Int→Option ((List Spot))) (Ae:List Spot) (Ak:Int) (Aa:Int):Option ((List Spot)) :=
  bif (decide (Aa<(Ab.fK.length:Int))) then Qac (ix Ab.fK Aa) λAf=>Qac (ix Ac Af) λAg=>Qdg fu Ah Aj Al Ac Ad Ak Aa Af Ag fu Ae 0 0 else Ai Ae (w64 (Ad+1))
def Qcg (fu:Nat) (Aa:List Spot→Int→Option ((List Spot))) (Ae:List Box) (Af:(List Shelf)) (Ad:(List Layer)) (Ac:Int) (Ab:Load):Nat→List Spot→Int→Int→Option ((List Spot))
  | 0=>λ_ _ _=>none
  | n+1=>Qkl fu Aa Ae Af Ad Ac Ab (Qcg fu Aa Ae Af Ad Ac Ab n)
def Qj6 (fu:Nat)  (Ag:List Box) (Ah:(List Shelf)) (Af:(List Layer)) (Ac:(List Load)) (Ad:List Spot→Int→Option ((List Spot))) (Ab:List Spot) (Aa:Int):Option ((List Spot)) :=
  bif (decide (Aa<(Ac.length:Int))) then Qac (ix Ac Aa) λAe=>Qcg fu Ad Ag Ah Af Aa Ae fu Ab 0 0 else some (Ab)
def Qbp (fu:Nat)  (Ad:List Box) (Ac:(List Shelf)) (Aa:(List Layer)) (Ab:(List Load)):Nat→List Spot→Int→Option ((List Spot))
  | 0=>λ_ _=>none
  | n+1=>Qj6 fu Ad Ac Aa Ab (Qbp fu Ad Ac Aa Ab n)
def Qly (fu:Nat) (p1:Pallet) (Aa:List Box):Option ((List Spot)) :=
  Qac (Ql1 fu p1 Aa) λAd=>bif (!Ad) then some (([]:List Spot)) else Qac (Qok fu p1 Aa) λAc=>Qac (Qnh fu p1 Ac) λAb=>Qac (mk 32 (⟨(0:Int),(0:Int),(0:Int),(0:Int)⟩:Spot) (Aa.length:Int)) λAe=>Qac (Qow fu p1 Ab) λAf=>Qbp fu Aa Ac Ab Af fu Ae 0
def Qjf (fu:Nat) (k3:Int→Int→Option (Int)) (Ab:Int) (Aa:Int):Option (Int) :=
  k3 Aa (w64 (Ab+1))
def Qj9 (fu:Nat)  (Ad:List Spot) (k3:Int→Int→Option (Int)) (Aa:Int) (Ab:Int):Option (Int) :=
  bif (decide (Ab<(Ad.length:Int))) then Qac (ix Ad Ab) λAc=>Qac (Qaz fu Ac.fJ 0 999999) λAe=>bif Ae then Qjf fu k3 Ab (if (w64 (Ac.fJ+1))>Aa then w64 (Ac.fJ+1) else Aa) else Qjf fu k3 Ab Aa else some (Aa)
def Qe8 (fu:Nat)  (Aa:List Spot):Nat→Int→Int→Option (Int)
  | 0=>λ_ _=>none
  | n+1=>Qj9 fu Aa (Qe8 fu Aa n)
def Qlx (fu:Nat) (Aa:List Spot):Option (Int) :=
  Qe8 fu Aa fu 0 0
def Qlq (fu:Nat) (Ac:List Box→Int→Option (Plan×Bool)) (Ab:Int) (Aa:List Box):Option (Plan×Bool) :=
  Ac Aa (w64 (Ab+1))
def Qmv (fu:Nat) (Af:List Spot→Int→Int→Option (Plan×Bool)) (Ac:Int) (Ah:Int) (Ae:(List Spot)) (Ai:Int) (Aj:List Spot→Int→Option (Plan×Bool)) (Ad:List Spot) (Ab:Int):Option (Plan×Bool) :=
  bif (decide (Ab<(Ae.length:Int))) then Qac (ix Ae Ab) λAa=>Qac (Qfi 32 Ad (([(⟨w64 (Aa.fJ+Ac),Aa.fX,Aa.fY,Aa.fZ⟩:Spot)]:List Spot))) λAg=>Aj Ag (w64 (Ab+1)) else Af Ad (w64 (Ac+Ai)) (w64 (Ah+1))
def Qfy (fu:Nat) (Aa:List Spot→Int→Int→Option (Plan×Bool)) (Ab:Int) (Ac:Int) (Ad:(List Spot)) (Ae:Int):Nat→List Spot→Int→Option (Plan×Bool)
  | 0=>λ_ _=>none
  | n+1=>Qmv fu Aa Ab Ac Ad Ae (Qfy fu Aa Ab Ac Ad Ae n)
def Qmm (fu:Nat) (Ah:List Spot→Int→Int→Option (Plan×Bool)) (r1:Request) (Ae:(List Carton)) (Am:List Spot) (Ai:Int) (Af:Int) (Ac:List Box→Int→Option (Plan×Bool)) (Ab:List Box) (Aa:Int):Option (Plan×Bool) :=
  bif (decide (Aa<(Ae.length:Int))) then Qac (ix Ae Aa) λAg=>bif (Ag.fa==Af) then Qac (Qq7 fu r1 Ag) λAk=>Qac (Qfi 32 Ab (([Ak]:List Box))) λAj=>Qlq fu Ac Aa Aj else Qlq fu Ac Aa Ab else Qac (Qly fu r1.fJ Ab) λAd=>Qac (Qlx fu Ad) λAl=>Qfy fu Ah Ai Af Ad Al fu Am 0
def Qf4 (fu:Nat) (Aa:List Spot→Int→Int→Option (Plan×Bool)) (r1:Request) (Ad:(List Carton)) (Ae:List Spot) (Ab:Int) (Ac:Int):Nat→List Box→Int→Option (Plan×Bool)
  | 0=>λ_ _=>none
  | n+1=>Qmm fu Aa r1 Ad Ae Ab Ac (Qf4 fu Aa r1 Ad Ae Ab Ac n)
def Qma (fu:Nat)  (r1:Request) (Ab:(List Carton)) (Af:(List (List Int))) (Ad:List Spot→Int→Int→Option (Plan×Bool)) (Ac:List Spot) (Ae:Int) (Aa:Int):Option (Plan×Bool) :=
  bif (decide (Aa<(Af.length:Int))) then Qf4 fu Ad r1 Ab Ac Ae Aa fu (([]:List Box)) 0 else some ((⟨Ab,Ac⟩:Plan),true)
def Qci (fu:Nat)  (r1:Request) (Ab:(List Carton)) (Aa:(List (List Int))):Nat→List Spot→Int→Int→Option (Plan×Bool)
  | 0=>λ_ _ _=>none
  | n+1=>Qma fu r1 Ab Aa (Qci fu r1 Ab Aa n)
def Qp1 (fu:Nat) (r1:Request):Option (Plan×Bool) :=
  Qac (Qf0 fu r1) λAc=>bif (!Ac) then some ((⟨[],[]⟩:Plan),false) else Qac (Qll fu r1) λAb=>Qac (Qhh fu r1) λAa=>Qci fu r1 Ab Aa fu (([]:List Spot)) 0 0
def Qg4 (fu:Nat) (k3:Int→Option (Bool)) (Aa:Int)  : Option (Bool) :=
  k3 (w64 (Aa+1))
def Qhp (fu:Nat)  (Ab:List Int) (k3:Int→Option (Bool)) (Aa:Int):Option (Bool) :=
  bif (decide (Aa<(Ab.length:Int))) then Qac (ix Ab Aa) λAc=>Qac (Qaz fu Ac 0 999) λAd=>bif (!Ad) then some (false) else bif (decide (Aa>0)) then Qac (ix Ab (w64 (Aa - 1))) λAe=>bif (decide (Ae≥Ac)) then some (false) else Qg4 fu k3 Aa else Qg4 fu k3 Aa else some (decide ((Ab.length:Int)≤100))
def Qdm (fu:Nat)  (Aa:List Int):Nat→Int→Option (Bool)
  | 0=>λ_=>none
  | n+1=>Qhp fu Aa (Qdm fu Aa n)
def Qjj (fu:Nat) (Aa:List Int):Option (Bool) :=
  Qdm fu Aa fu 0
def Qha (fu:Nat) (n1:Int):Option (Bool) :=
  Qac (Qaz fu n1 0 2000) λx2=>some (x2)
def Qpi (fu:Nat) (k4:Int→Option (Bool)) (Aa:Int)  : Option (Bool) :=
  k4 (w64 (Aa+1))
def Qmo (fu:Nat)  (x1:Plan) (k4:Int→Option (Bool)) (Ab:Int):Option (Bool) :=
  bif (decide (Ab<(x1.fE.length:Int))) then Qac (ix x1.fE Ab) λAc=>Qac (ix x1.fc Ab) λAa=>Qac (Qaz fu Ac.fe 0 999) λAi=>bif (!Ai) then some (false) else Qac (Qaz fu Ac.fa 0 3) λAj=>bif (!Aj) then some (false) else Qac (Qjj fu Ac.f9) λAd=>bif (!Ad) then some (false) else Qac (Qha fu Aa.fJ) λAe=>bif (!Ae) then some (false) else Qac (Qha fu Aa.fX) λAf=>bif (!Af) then some (false) else Qac (Qha fu Aa.fY) λAg=>bif (!Ag) then some (false) else Qac (Qha fu Aa.fZ) λAh=>bif (!Ah) then some (false) else Qpi fu k4 Ab else some (true)
def Qf5 (fu:Nat)  (x1:Plan):Nat→Int→Option (Bool)
  | 0=>λ_=>none
  | n+1=>Qmo fu x1 (Qf5 fu x1 n)
def Qpn (fu:Nat) (x1:Plan)  : Option (Bool) :=
  Qf5 fu x1 fu 0
def Qqc (fu:Nat) (x1:Plan):Option (Bool) :=
  bif ((x1.fc.length:Int) != (x1.fE.length:Int)) then some (false) else bif (decide ((x1.fE.length:Int)>100)) then some (false) else Qpn fu x1
def Qiq (fu:Nat)  (Ad:List Int) (k1:ByteArray→Int→Option (ByteArray×Bool)) (Ab:ByteArray) (Aa:Int):Option (ByteArray×Bool) :=
  bif (decide (Aa<(Ad.length:Int))) then Qac (ix Ad Aa) λAc=>Qac (Qaz fu Ac 0 999999) λAh=>bif (!Ah) then some ((⟨#[]⟩:ByteArray),false) else Qac (Qnw fu Ac) λAg=>Qac (Qyv (⟨#[32]⟩:ByteArray) Ag) λAe=>Qac (Qyv Ab Ae) λAf=>k1 Af (w64 (Aa+1)) else Qac (Qyv Ab (⟨#[10]⟩:ByteArray)) λAi=>some (Ai,true)
def Qek (fu:Nat)  (Aa:List Int):Nat→ByteArray→Int→Option (ByteArray×Bool)
  | 0=>λ_ _=>none
  | n+1=>Qiq fu Aa (Qek fu Aa n)
def Qi8 (fu:Nat) (Aa:ByteArray) (Ab:List Int):Option (ByteArray×Bool) :=
  Qek fu Ab fu Aa 0
def Qio (fu:Nat)  (x1:Plan) (k1:ByteArray→Int→Option (ByteArray)) (Ad:ByteArray) (Ab:Int):Option (ByteArray) :=
  bif (decide (Ab<(x1.fE.length:Int))) then Qac (ix x1.fE Ab) λAc=>Qac (ix x1.fc Ab) λAa=>Qac (Qfi 8 (([Ac.fe,Ac.fa,Aa.fJ,Aa.fX,Aa.fY,Aa.fZ]:List Int)) Ac.f9) λAe=>Qac (Qi8 fu (⟨#[99,97,114,116,111,110]⟩:ByteArray) Ae) λAg=>Qac (Qyv Ad Ag.1) λAf=>k1 Af (w64 (Ab+1)) else some (Ad)
def Qdq (fu:Nat)  (x1:Plan):Nat→ByteArray→Int→Option (ByteArray)
  | 0=>λ_ _=>none
  | n+1=>Qio fu x1 (Qdq fu x1 n)
def Qng (fu:Nat) (x1:Plan):Option (ByteArray) :=
  Qac (Qqc fu x1) λAa=>bif (!Aa) then some (⟨#[]⟩:ByteArray) else Qdq fu x1 fu (⟨#[]⟩:ByteArray) 0
def Qr4 (fu:Nat) (Aa:ByteArray):Option (ByteArray×Int) :=
  Qac (Qou fu Aa) λx2=>bif (x2 != 0) then some ((⟨#[]⟩:ByteArray),x2) else Qac (Qhu fu Aa) λx7=>Qac (Qp1 fu x7.1) λAb=>Qac (Qng fu Ab.1) λAc=>some (Ac,0)
end Go.Proofs.YtpcmapfabndggaaGreatDoor
