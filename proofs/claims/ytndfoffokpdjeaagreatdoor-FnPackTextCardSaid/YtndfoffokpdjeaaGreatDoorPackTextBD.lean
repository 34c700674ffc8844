/- FnPackText: what the.. -/
import Derived.Test.YtndfoffokpdjeaaGreatDoorS13
import Derived.Test.YtndfoffokpdjeaaGreatDoorS15
import Derived.Test.YtndfoffokpdjeaaGreatDoorS22
import Derived.Test.YtndfoffokpdjeaaGreatDoorS24
set_option linter.unusedVariables false
namespace Go.Proofs.YtndfoffokpdjeaaGreatDoor
open Go
def Qwp (fu:Nat) (Aa:List U8):Option (Bool) :=
  some (decide ((Aa.length:Int)>1048576))
def Qsl (fu:Nat) (k3:Int→Int→Option (Cur)) (Ac:List U8) (Ab:Int) (Aa:Int)  : Option (Cur) :=
  Qab (ix Ac Aa) λAd=>k3 (IntKind.wrap .i64 (((BitVec.ofInt (IntKind.bits .i64) (w64 ((w64 ((w64 (Ab*131))+(w64 Ad.n)))+7)) &&& BitVec.ofInt (IntKind.bits .i64) 1073741823).toNat:Nat):Int)) (w64 (Aa+1))
def Qpq (fu:Nat)  (Aa:List U8) (k3:Int→Int→Option (Cur)) (Ab:Int) (Ac:Int):Option (Cur) :=
  bif (decide (Ac<(Aa.length:Int))) then bif (decide (Ac<4000)) then Qsl fu k3 Aa Ab Ac else some (⟨Aa,0,Ab⟩:Cur) else some (⟨Aa,0,Ab⟩:Cur)
def Qg8 (fu:Nat)  (Aa:List U8):Nat→Int→Int→Option (Cur)
  | 0=>λ_ _=>none
  | n+1=>Qpq fu Aa (Qg8 fu Aa n)
def Qtg (fu:Nat) (Aa:List U8):Option (Cur) :=
  Qg8 fu Aa fu (w64 (26583+(Aa.length:Int))) 0
def Qhq (fu:Nat) (c1:Cur):Option (Int×Cur) :=
  bif (decide (c1.fi<(c1.fb.length:Int))) then Qab (ix c1.fb c1.fi) λAa=>some (IntKind.wrap .i64 (((BitVec.ofInt (IntKind.bits .i64) (w64 ((IntKind.wrap .i64 (((BitVec.ofInt (IntKind.bits .i64) (IntKind.wrap .i64 (((BitVec.ofInt (IntKind.bits .i64) (Int.fdiv (w64 ((w64 (c1.fh*6364136223846793005))+1442695040888963407)) (2 ^ (min 33 (IntKind.bits .i64)))) ^^^ BitVec.ofInt (IntKind.bits .i64) (Int.fdiv (w64 ((w64 (c1.fh*6364136223846793005))+1442695040888963407)) (2 ^ (min 45 (IntKind.bits .i64))))).toNat:Nat):Int)) &&& BitVec.ofInt (IntKind.bits .i64) 255).toNat:Nat):Int))+(w64 Aa.n))) &&& BitVec.ofInt (IntKind.bits .i64) 255).toNat:Nat):Int),(⟨c1.fb,w64 (c1.fi+1),w64 ((w64 (c1.fh*6364136223846793005))+1442695040888963407)⟩:Cur)) else some (IntKind.wrap .i64 (((BitVec.ofInt (IntKind.bits .i64) (IntKind.wrap .i64 (((BitVec.ofInt (IntKind.bits .i64) (Int.fdiv (w64 ((w64 (c1.fh*6364136223846793005))+1442695040888963407)) (2 ^ (min 33 (IntKind.bits .i64)))) ^^^ BitVec.ofInt (IntKind.bits .i64) (Int.fdiv (w64 ((w64 (c1.fh*6364136223846793005))+1442695040888963407)) (2 ^ (min 45 (IntKind.bits .i64))))).toNat:Nat):Int)) &&& BitVec.ofInt (IntKind.bits .i64) 255).toNat:Nat):Int),(⟨c1.fb,c1.fi,w64 ((w64 (c1.fh*6364136223846793005))+1442695040888963407)⟩:Cur))
def Qal (fu:Nat) (c1:Cur) (n7:Int):Option (Int×Cur) :=
  bif (decide (n7≤0)) then some (0,c1) else bif (decide (n7≤256)) then Qab (Qhq fu c1) λAe=>Qab (Jhu n7) λAf=>some (Int.tmod Ae.1 n7,(⟨c1.fb,Ae.2.fi,Ae.2.fh⟩:Cur)) else Qab (Qhq fu c1) λAd=>Qab (Qhq fu (⟨c1.fb,Ad.2.fi,Ad.2.fh⟩:Cur)) λAa=>Qab (Qhq fu (⟨c1.fb,Aa.2.fi,Aa.2.fh⟩:Cur)) λAc=>Qab (Qhq fu (⟨c1.fb,Ac.2.fi,Ac.2.fh⟩:Cur)) λAb=>Qab (Jhu n7) λAg=>some (Int.tmod (w64 ((w64 ((w64 ((w64 (Ad.1*16777216))+(w64 (Aa.1*65536))))+(w64 (Ac.1*256))))+Ab.1)) n7,(⟨c1.fb,Ab.2.fi,Ab.2.fh⟩:Cur))
def Qj6 (fu:Nat) (c1:Cur) (n7:Int):Option (Bool×Cur) :=
  Qab (Qal fu c1 n7) λx9=>some (x9.1==0,(⟨c1.fb,x9.2.fi,x9.2.fh⟩:Cur))
def Qb2 (fu:Nat) (c1:Cur) (Ab:List Int):Option (Int×Cur) :=
  Qab (Qal fu c1 (Ab.length:Int)) λAa=>Qab (ix Ab Aa.1) λAc=>some (Ac,(⟨c1.fb,Aa.2.fi,Aa.2.fh⟩:Cur))
def Qh0 (fu:Nat) (Ac:Int→Int→List Pair→Int→Option (Request×Cur)) (Ab:Int) (Ae:Int) (Aa:Int) (Ad:List Pair):Option (Request×Cur) :=
  Ac Ae Aa Ad (w64 (Ab+1))
def Qma (fu:Nat) (k9:Int→Int→List Pair→Int→Option (Request×Cur)) (c1:Cur) (Ab:Int) (Ag:Int→Int→List Pair→Int→Option (Request×Cur)) (Af:Int) (Ae:Int) (Ad:List Pair) (Aa:Int):Option (Request×Cur) :=
  bif (decide (Aa≤Ab)) then bif (Ab==Aa) then Qab (Qc7 16 Ad (([(⟨Ab,Ab⟩:Pair)]:List Pair))) λAh=>Qh0 fu Ag Aa Af Ae Ah else Qab (Qj6 fu (⟨c1.fb,Af,Ae⟩:Cur) 2) λAc=>bif Ac.1 then Qab (Qc7 16 Ad (([(⟨Ab,Aa⟩:Pair),(⟨Aa,Ab⟩:Pair)]:List Pair))) λAi=>Qh0 fu Ag Aa Ac.2.fi Ac.2.fh Ai else Qh0 fu Ag Aa Ac.2.fi Ac.2.fh Ad else k9 Af Ae Ad (w64 (Ab+1))
def Qeu (fu:Nat) (k9:Int→Int→List Pair→Int→Option (Request×Cur)) (c1:Cur) (Aa:Int):Nat→Int→Int→List Pair→Int→Option (Request×Cur)
  | 0=>λ_ _ _ _=>none
  | n+1=>Qma fu k9 c1 Aa (Qeu fu k9 c1 Aa n)
def Qkh (fu:Nat) (Ad:Int→Int→List Item→Int→Int→Option (Request×Cur)) (Af:Int) (Ae:Int) (Ab:Int) (Ac:List Item) (Aa:Int):Option (Request×Cur) :=
  Ad Ae Ab Ac Aa (w64 (Af+1))
def Qhz (fu:Nat) (Af:Int→Int→List Item→Int→Int→Option (Request×Cur)) (Ae:List Item) (Ab:Int) (Ag:Int) (Ad:Int) (Ac:Int) (Aa:Item):Option (Request×Cur) :=
  bif (decide ((w64 (Ab+Aa.fF))≤12)) then Qab (Qc7 56 Ae (([Aa]:List Item))) λAh=>Qkh fu Af Ag Ad Ac Ah (w64 (Ab+Aa.fF)) else Qkh fu Af Ag Ad Ac Ae Ab
def Qpr (fu:Nat) (Ae:Int→Int→List Item→Int→Int→Option (Request×Cur)) (c1:Cur) (Ad:List Item) (Af:Int) (Ag:Int) (Ah:Int) (Ai:Int) (Ab:Item):Option (Request×Cur) :=
  Qab (Qj6 fu (⟨c1.fb,Ah,Ai⟩:Cur) 3) λAa=>bif Aa.1 then Qab (Qal fu (⟨c1.fb,Aa.2.fi,Aa.2.fh⟩:Cur) 8) λAc=>Qhz fu Ae Ad Af Ag Ac.2.fi Ac.2.fh (⟨Ab.f8,5,5,w64 (4+Ac.1),Ab.fQ,Ab.fM,Ab.fF⟩:Item) else Qhz fu Ae Ad Af Ag Aa.2.fi Aa.2.fh Ab
def Qnl (fu:Nat)  (c1:Cur) (Am:Int×Cur) (Ap:Int×Cur) (Al:Int×Cur) (At:Int×Cur) (Ar:Int×Cur) (Aj:Int×Cur) (Ao:List Pair) (Av:List Typ) (Au:Int×Cur) (Aq:Int→Int→List Item→Int→Int→Option (Request×Cur)) (Ai:Int) (Ak:Int) (Ah:List Item) (As:Int) (Af:Int):Option (Request×Cur) :=
  bif (decide (Af<Au.1)) then Qab (Qal fu (⟨c1.fb,Ai,Ak⟩:Cur) 10) λAc=>Qab (Qal fu (⟨c1.fb,Ac.2.fi,Ac.2.fh⟩:Cur) 10) λAb=>Qab (Qal fu (⟨c1.fb,Ab.2.fi,Ab.2.fh⟩:Cur) 10) λAa=>Qab (Qal fu (⟨c1.fb,Aa.2.fi,Aa.2.fh⟩:Cur) 60) λAe=>Qab (Qal fu (⟨c1.fb,Ae.2.fi,Ae.2.fh⟩:Cur) (w64 (1+Aj.1))) λAg=>Qab (Qal fu (⟨c1.fb,Ag.2.fi,Ag.2.fh⟩:Cur) 4) λAd=>Qpr fu Aq c1 Ah As Af Ad.2.fi Ad.2.fh (⟨w64 (3*Af),w64 (1+Ac.1),w64 (1+Ab.1),w64 (1+Aa.1),w64 (1+Ae.1),Ag.1,w64 (1+Ad.1)⟩:Item) else some ((⟨Am.1,(⟨Ap.1,Al.1,At.1,Ar.1⟩:Pallet),w64 (1+Aj.1),Ao,Av,7,Ah⟩:Request),(⟨c1.fb,Ai,Ak⟩:Cur))
def Qcs (fu:Nat)  (c1:Cur) (Ai:Int×Cur) (Aa:Int×Cur) (Ab:Int×Cur) (Ag:Int×Cur) (Ae:Int×Cur) (Ac:Int×Cur) (Af:List Pair) (Ad:List Typ) (Ah:Int×Cur):Nat→Int→Int→List Item→Int→Int→Option (Request×Cur)
  | 0=>λ_ _ _ _ _=>none
  | n+1=>Qnl fu c1 Ai Aa Ab Ag Ae Ac Af Ad Ah (Qcs fu c1 Ai Aa Ab Ag Ae Ac Af Ad Ah n)
def Qnm (fu:Nat)  (c1:Cur) (Am:Int×Cur) (Ap:Int×Cur) (Al:Int×Cur) (Au:Int×Cur) (Ar:Int×Cur) (As:Int×Cur) (Ao:List Pair) (Av:Int×Cur) (At:Int→Int→List Typ→Int→Option (Request×Cur)) (Aj:Int) (Ai:Int) (Ak:List Typ) (Ad:Int):Option (Request×Cur) :=
  bif (decide (Ad<Av.1)) then Qab (Qal fu (⟨c1.fb,Aj,Ai⟩:Cur) 9) λAf=>Qab (Qal fu (⟨c1.fb,Af.2.fi,Af.2.fh⟩:Cur) 8) λAa=>Qab (Qal fu (⟨c1.fb,Aa.2.fi,Aa.2.fh⟩:Cur) 9) λAb=>Qab (Qal fu (⟨c1.fb,Ab.2.fi,Ab.2.fh⟩:Cur) 5) λAe=>Qab (Qal fu (⟨c1.fb,Ae.2.fi,Ae.2.fh⟩:Cur) 90) λAg=>Qab (Qal fu (⟨c1.fb,Ag.2.fi,Ag.2.fh⟩:Cur) 20) λAc=>Qab (Qc7 56 Ak (([(⟨w64 (10+Ad),w64 (4+Af.1),w64 (3+Aa.1),w64 (3+Ab.1),Ae.1,w64 (20+Ag.1),w64 (1+Ac.1)⟩:Typ)]:List Typ))) λAq=>At Ac.2.fi Ac.2.fh Aq (w64 (Ad+1)) else Qab (Qal fu (⟨c1.fb,Aj,Ai⟩:Cur) 6) λAh=>Qcs fu c1 Am Ap Al Au Ar As Ao Ak Ah fu Ah.2.fi Ah.2.fh (([]:List Item)) 0 0
def Qgx (fu:Nat)  (c1:Cur) (Ah:Int×Cur) (Aa:Int×Cur) (Ab:Int×Cur) (Af:Int×Cur) (Ad:Int×Cur) (Ac:Int×Cur) (Ae:List Pair) (Ag:Int×Cur):Nat→Int→Int→List Typ→Int→Option (Request×Cur)
  | 0=>λ_ _ _ _=>none
  | n+1=>Qnm fu c1 Ah Aa Ab Af Ad Ac Ae Ag (Qgx fu c1 Ah Aa Ab Af Ad Ac Ae Ag n)
def Qpt (fu:Nat) (c1:Cur) (Ak:Int×Cur) (Ab:Int×Cur) (Ae:Int×Cur) (Aj:Int×Cur) (Ah:Int×Cur) (Af:Int×Cur) (Ai:List Pair) (Ac:Int) (Ag:Int) (Ad:List Typ):Option (Request×Cur) :=
  Qab (Qal fu (⟨c1.fb,Ac,Ag⟩:Cur) 5) λAa=>Qgx fu c1 Ak Ab Ae Aj Ah Af Ai Aa fu Aa.2.fi Aa.2.fh Ad 0
def Qmh (fu:Nat)  (c1:Cur) (Ao:Int×Cur) (Ai:Int×Cur) (Aj:Int×Cur) (Am:Int×Cur) (Al:Int×Cur) (Ae:Int×Cur) (k9:Int→Int→List Pair→Int→Option (Request×Cur)) (Ah:Int) (Ad:Int) (Ag:List Pair) (Af:Int):Option (Request×Cur) :=
  bif (decide (Af<(w64 (1+Ae.1)))) then Qeu fu k9 c1 Af fu Ah Ad Ag 0 else Qab (Qal fu (⟨c1.fb,Ah,Ad⟩:Cur) 8) λAa=>Qab (Qb2 fu (⟨c1.fb,Aa.2.fi,Aa.2.fh⟩:Cur) (([60,100,140]:List Int))) λAb=>Qab (Qb2 fu (⟨c1.fb,Ab.2.fi,Ab.2.fh⟩:Cur) (([9,20]:List Int))) λAc=>Qab (Qc7 56 (([]:List Typ)) (([(⟨7,12,10,11,Aa.1,Ab.1,Ac.1⟩:Typ)]:List Typ))) λAk=>Qpt fu c1 Ao Ai Aj Am Al Ae Ag Ac.2.fi Ac.2.fh Ak
def Qdd (fu:Nat)  (c1:Cur) (Af:Int×Cur) (Aa:Int×Cur) (Ab:Int×Cur) (Ae:Int×Cur) (Ad:Int×Cur) (Ac:Int×Cur):Nat→Int→Int→List Pair→Int→Option (Request×Cur)
  | 0=>λ_ _ _ _=>none
  | n+1=>Qmh fu c1 Af Aa Ab Ae Ad Ac (Qdd fu c1 Af Aa Ab Ae Ad Ac n)
def Qlg (fu:Nat) (c1:Cur):Option (Request×Cur) :=
  Qab (Qal fu c1 2) λAf=>Qab (Qb2 fu (⟨c1.fb,Af.2.fi,Af.2.fh⟩:Cur) (([20,30,37]:List Int))) λAa=>Qab (Qb2 fu (⟨c1.fb,Aa.2.fi,Aa.2.fh⟩:Cur) (([20,25,40]:List Int))) λAb=>Qab (Qb2 fu (⟨c1.fb,Ab.2.fi,Ab.2.fh⟩:Cur) (([15,24,50]:List Int))) λAe=>Qab (Qb2 fu (⟨c1.fb,Ae.2.fi,Ae.2.fh⟩:Cur) (([150,400,5000]:List Int))) λAd=>Qab (Qal fu (⟨c1.fb,Ad.2.fi,Ad.2.fh⟩:Cur) 4) λAc=>Qdd fu c1 Af Aa Ab Ae Ad Ac fu Ac.2.fi Ac.2.fh (([]:List Pair)) 0
def Qa8 (fu:Nat) (c1:Cur) (Aa:Request×Cur) (Ac:Int) (Ak:Int) (Ae:Int) (Ad:Int) (Af:List Pair) (Ag:List Typ) (Ab:Int) (Ai:List Item) (Aj:Int) (Ah:Int):Option (Request×Cur) :=
  some ((⟨Ac,(⟨Ak,Aa.1.fJ.fD,Aa.1.fJ.fH,Ae⟩:Pallet),Ad,Af,Ag,Ab,Ai⟩:Request),(⟨c1.fb,Aj,Ah⟩:Cur))
def Qrz (fu:Nat) (c1:Cur):Option (Request×Cur) :=
  Qab (Qlg fu c1) λAa=>Qab (Qb2 fu (⟨c1.fb,Aa.2.fi,Aa.2.fh⟩:Cur) (([(-1),0,2001,100001,1000,9223372036854775807]:List Int))) λAc=>Qab (Qal fu (⟨c1.fb,Ac.2.fi,Ac.2.fh⟩:Cur) 20) λAb=>bif (Ab.1==0) then Qab (Qb2 fu (⟨c1.fb,Ab.2.fi,Ab.2.fh⟩:Cur) (([(-1),2]:List Int))) λAe=>Qa8 fu c1 Aa Ae.1 Aa.1.fJ.fW Aa.1.fJ.fQ Aa.1.fU Aa.1.fT Aa.1.fG Aa.1.fR Aa.1.fV Ae.2.fi Ae.2.fh else bif (Ab.1==1) then Qa8 fu c1 Aa Aa.1.f9 Ac.1 Aa.1.fJ.fQ Aa.1.fU Aa.1.fT Aa.1.fG Aa.1.fR Aa.1.fV Ab.2.fi Ab.2.fh else bif (Ab.1==2) then Qa8 fu c1 Aa Aa.1.f9 Aa.1.fJ.fW Ac.1 Aa.1.fU Aa.1.fT Aa.1.fG Aa.1.fR Aa.1.fV Ab.2.fi Ab.2.fh else bif (Ab.1==3) then Qab (Qb2 fu (⟨c1.fb,Ab.2.fi,Ab.2.fh⟩:Cur) (([0,5,1]:List Int))) λAh=>Qa8 fu c1 Aa Aa.1.f9 Aa.1.fJ.fW Aa.1.fJ.fQ Ah.1 Aa.1.fT Aa.1.fG Aa.1.fR Aa.1.fV Ah.2.fi Ah.2.fh else bif (Ab.1==4) then Qab (Qal fu (⟨c1.fb,Ab.2.fi,Ab.2.fh⟩:Cur) 6) λAj=>Qab (Qal fu (⟨c1.fb,Aj.2.fi,Aj.2.fh⟩:Cur) 4) λAf=>Qab (Qc7 16 Aa.1.fT (([(⟨w64 (Aj.1 - 1),Af.1⟩:Pair)]:List Pair))) λAp=>Qa8 fu c1 Aa Aa.1.f9 Aa.1.fJ.fW Aa.1.fJ.fQ Aa.1.fU Ap Aa.1.fG Aa.1.fR Aa.1.fV Af.2.fi Af.2.fh else bif (Ab.1==5) then Qab (ix Aa.1.fG 0) λAo=>Qa8 fu c1 Aa Aa.1.f9 Aa.1.fJ.fW Aa.1.fJ.fQ Aa.1.fU Aa.1.fT (Qi1 Aa.1.fG 0 ({ Ao with fH:=Ac.1 })) Aa.1.fR Aa.1.fV Ab.2.fi Ab.2.fh else bif (Ab.1==6) then Qab (Qal fu (⟨c1.fb,Ab.2.fi,Ab.2.fh⟩:Cur) (Aa.1.fG.length:Int)) λAd=>Qab (ix Aa.1.fG Ad.1) λAs=>Qa8 fu c1 Aa Aa.1.f9 Aa.1.fJ.fW Aa.1.fJ.fQ Aa.1.fU Aa.1.fT (Qi1 Aa.1.fG Ad.1 ({ As with fQ:=Ac.1 })) Aa.1.fR Aa.1.fV Ad.2.fi Ad.2.fh else bif (Ab.1==7) then Qab (Qb2 fu (⟨c1.fb,Ab.2.fi,Ab.2.fh⟩:Cur) (([8,(-1),1000]:List Int))) λAk=>Qa8 fu c1 Aa Aa.1.f9 Aa.1.fJ.fW Aa.1.fJ.fQ Aa.1.fU Aa.1.fT Aa.1.fG Ak.1 Aa.1.fV Ak.2.fi Ak.2.fh else bif (Ab.1==8) then Qab (Qal fu (⟨c1.fb,Ab.2.fi,Ab.2.fh⟩:Cur) 5) λAg=>Qab (Qal fu (⟨c1.fb,Ag.2.fi,Ag.2.fh⟩:Cur) 8) λAi=>Qab (Qc7 56 Aa.1.fV (([(⟨3,1,2,3,4,Ag.1,Ai.1⟩:Item)]:List Item))) λAm=>Qa8 fu c1 Aa Aa.1.f9 Aa.1.fJ.fW Aa.1.fJ.fQ Aa.1.fU Aa.1.fT Aa.1.fG Aa.1.fR Am Ai.2.fi Ai.2.fh else bif (Ab.1==9) then bif (decide ((Aa.1.fV.length:Int)>0)) then Qab (ix Aa.1.fV 0) λAl=>Qa8 fu c1 Aa Aa.1.f9 Aa.1.fJ.fW Aa.1.fJ.fQ Aa.1.fU Aa.1.fT Aa.1.fG Aa.1.fR (Qi1 Aa.1.fV 0 ({ Al with fD:=Ac.1 })) Ab.2.fi Ab.2.fh else Qa8 fu c1 Aa Aa.1.f9 Aa.1.fJ.fW Aa.1.fJ.fQ Aa.1.fU Aa.1.fT Aa.1.fG Aa.1.fR Aa.1.fV Ab.2.fi Ab.2.fh else bif (Ab.1==10) then bif (decide ((Aa.1.fT.length:Int)>0)) then Qab (sls Aa.1.fT 1 (Aa.1.fT.length:Int)) λAq=>Qa8 fu c1 Aa Aa.1.f9 Aa.1.fJ.fW Aa.1.fJ.fQ Aa.1.fU Aq Aa.1.fG Aa.1.fR Aa.1.fV Ab.2.fi Ab.2.fh else Qa8 fu c1 Aa Aa.1.f9 Aa.1.fJ.fW Aa.1.fJ.fQ Aa.1.fU Aa.1.fT Aa.1.fG Aa.1.fR Aa.1.fV Ab.2.fi Ab.2.fh else bif (Ab.1==11) then Qab (ix Aa.1.fG 0) λAt=>Qab (Qc7 56 Aa.1.fG (([At]:List Typ))) λAr=>Qa8 fu c1 Aa Aa.1.f9 Aa.1.fJ.fW Aa.1.fJ.fQ Aa.1.fU Aa.1.fT Ar Aa.1.fR Aa.1.fV Ab.2.fi Ab.2.fh else bif (Ab.1==12) then Qa8 fu c1 Aa Aa.1.f9 Aa.1.fJ.fW Aa.1.fJ.fQ Aa.1.fU Aa.1.fT (([]:List Typ)) Aa.1.fR Aa.1.fV Ab.2.fi Ab.2.fh else Qa8 fu c1 Aa Aa.1.f9 Aa.1.fJ.fW Aa.1.fJ.fQ Aa.1.fU Aa.1.fT Aa.1.fG Aa.1.fR Aa.1.fV Ab.2.fi Ab.2.fh
def Qan (fu:Nat) (x1:Int) (Ab:Int) (Aa:Int):Option (Bool) :=
  bif (decide (x1≥Ab)) then some (decide (x1≤Aa)) else some (false)
def Qod (fu:Nat)  (r1:Request) (k3:List ByteArray→List (List Int)→Int→Option ((List ByteArray)×(List (List Int)))) (Ad:List ByteArray) (Ac:List (List Int)) (Ab:Int):Option ((List ByteArray)×(List (List Int))) :=
  bif (decide (Ab<(r1.fV.length:Int))) then Qab (ix r1.fV Ab) λAa=>Qab (Qc7 16 Ad (([(⟨#[105,116,101,109]⟩:ByteArray)]:List ByteArray))) λAf=>Qab (Qc7 24 Ac [([Aa.f8,Aa.fW,Aa.fH,Aa.fD,Aa.fQ,Aa.fM,Aa.fF]:List Int)]) λAe=>k3 Af Ae (w64 (Ab+1)) else some (Ad,Ac)
def Qf3 (fu:Nat)  (r1:Request):Nat→List ByteArray→List (List Int)→Int→Option ((List ByteArray)×(List (List Int)))
  | 0=>λ_ _ _=>none
  | n+1=>Qod fu r1 (Qf3 fu r1 n)
def Qo6 (fu:Nat)  (r1:Request) (k2:List ByteArray→List (List Int)→Int→Option ((List ByteArray)×(List (List Int)))) (Ac:List ByteArray) (Ad:List (List Int)) (Ab:Int):Option ((List ByteArray)×(List (List Int))) :=
  bif (decide (Ab<(r1.fG.length:Int))) then Qab (ix r1.fG Ab) λAa=>Qab (Qc7 16 Ac (([(⟨#[116,121,112,101]⟩:ByteArray)]:List ByteArray))) λAh=>Qab (Qc7 24 Ad [([Aa.f8,Aa.fW,Aa.fH,Aa.fD,Aa.fK,Aa.fQ,Aa.fL]:List Int)]) λAf=>k2 Ah Af (w64 (Ab+1)) else Qab (Qc7 16 Ac (([(⟨#[109,97,115,116,101,114]⟩:ByteArray)]:List ByteArray))) λAg=>Qab (Qc7 24 Ad [([r1.fR]:List Int)]) λAe=>Qf3 fu r1 fu Ag Ae 0
def Qf4 (fu:Nat)  (r1:Request):Nat→List ByteArray→List (List Int)→Int→Option ((List ByteArray)×(List (List Int)))
  | 0=>λ_ _ _=>none
  | n+1=>Qo6 fu r1 (Qf4 fu r1 n)
def Qoi (fu:Nat)  (r1:Request) (k1:List ByteArray→List (List Int)→Int→Option ((List ByteArray)×(List (List Int)))) (Ac:List ByteArray) (Ab:List (List Int)) (Aa:Int):Option ((List ByteArray)×(List (List Int))) :=
  bif (decide (Aa<(r1.fT.length:Int))) then Qab (Qc7 16 Ac (([(⟨#[119,105,116,104]⟩:ByteArray)]:List ByteArray))) λAe=>Qab (ix r1.fT Aa) λAd=>Qab (ix r1.fT Aa) λAg=>Qab (Qc7 24 Ab [([Ad.fA,Ad.fB]:List Int)]) λAf=>k1 Ae Af (w64 (Aa+1)) else Qf4 fu r1 fu Ac Ab 0
def Qhi (fu:Nat)  (r1:Request):Nat→List ByteArray→List (List Int)→Int→Option ((List ByteArray)×(List (List Int)))
  | 0=>λ_ _ _=>none
  | n+1=>Qoi fu r1 (Qhi fu r1 n)
def Qr8 (fu:Nat) (r1:Request):Option ((List ByteArray)×(List (List Int))) :=
  Qhi fu r1 fu (([(⟨#[112,97,108,108,101,116]⟩:ByteArray),(⟨#[99,108,97,115,115,101,115]⟩:ByteArray)]:List ByteArray)) (([([r1.fJ.fW,r1.fJ.fD,r1.fJ.fH,r1.fJ.fQ]:List Int),([r1.fU]:List Int)]:List (List Int))) 0
def Qlx (fu:Nat) (k3:Int→ByteArray→Option (ByteArray)) (Ac:Int) (Ad:ByteArray) (Aa:Int):Option (ByteArray) :=
  Qab (Q8m (([(⟨w8 (w64 (48+Aa))⟩:U8)]:List U8))) λAe=>Qab (Qs5 Ae Ad) λAb=>k3 (w64 (Int.tdiv Ac 10)) Ab
def Qoo (fu:Nat)  (n1:Int) (k3:Int→ByteArray→Option (ByteArray)) (Aa:Int) (Ab:ByteArray):Option (ByteArray) :=
  bif (Aa != 0) then bif (decide ((Int.tmod Aa 10)<0)) then Qlx fu k3 Aa Ab (w64 (0 - (Int.tmod Aa 10))) else Qlx fu k3 Aa Ab (Int.tmod Aa 10) else bif (decide (n1<0)) then Qab (Qs5 (⟨#[45]⟩:ByteArray) Ab) λAc=>some (Ac) else some (Ab)
def Qf0 (fu:Nat)  (n1:Int):Nat→Int→ByteArray→Option (ByteArray)
  | 0=>λ_ _=>none
  | n+1=>Qoo fu n1 (Qf0 fu n1 n)
def Qij (fu:Nat) (n1:Int):Option (ByteArray) :=
  bif (n1==0) then some (⟨#[48]⟩:ByteArray) else Qf0 fu n1 fu n1 (⟨#[]⟩:ByteArray)
def Qpj (fu:Nat)  (Ab:List Int) (k1:ByteArray→Int→Option (ByteArray×Bool)) (Ac:ByteArray) (Aa:Int):Option (ByteArray×Bool) :=
  bif (decide (Aa<(Ab.length:Int))) then Qab (ix Ab Aa) λAd=>Qab (Qan fu Ad 0 999999) λAf=>bif (!Af) then some ((⟨#[]⟩:ByteArray),false) else Qab (Qs5 Ac (⟨#[32]⟩:ByteArray)) λAe=>Qab (ix Ab Aa) λAj=>Qab (Qij fu Ad) λAg=>Qab (Qs5 Ae Ag) λAh=>k1 Ah (w64 (Aa+1)) else Qab (Qs5 Ac (⟨#[10]⟩:ByteArray)) λAi=>some (Ai,true)
def Qhw (fu:Nat)  (Aa:List Int):Nat→ByteArray→Int→Option (ByteArray×Bool)
  | 0=>λ_ _=>none
  | n+1=>Qpj fu Aa (Qhw fu Aa n)
def Qtf (fu:Nat) (Ab:ByteArray) (Aa:List Int):Option (ByteArray×Bool) :=
  Qhw fu Aa fu Ab 0
def Qja (fu:Nat)  (Ab:(List ByteArray)×(List (List Int))) (k1:ByteArray→Int→Option (ByteArray)) (Ac:ByteArray) (Aa:Int):Option (ByteArray) :=
  bif (decide (Aa<(Ab.1.length:Int))) then Qab (ix Ab.1 Aa) λAg=>Qab (ix Ab.2 Aa) λAe=>Qab (Qtf fu Ag Ae) λAd=>bif (!Ad.2) then some (⟨#[]⟩:ByteArray) else Qab (Qs5 Ac Ad.1) λAf=>k1 Af (w64 (Aa+1)) else some (Ac)
def Qfc (fu:Nat)  (Aa:(List ByteArray)×(List (List Int))):Nat→ByteArray→Int→Option (ByteArray)
  | 0=>λ_ _=>none
  | n+1=>Qja fu Aa (Qfc fu Aa n)
def Qit (fu:Nat) (r1:Request):Option (ByteArray) :=
  Qab (Qan fu r1.f9 0 1) λAb=>bif (!Ab) then some (⟨#[]⟩:ByteArray) else Qab (ix (([(⟨#[119,97,121,32,102,105,114,115,116,10]⟩:ByteArray),(⟨#[119,97,121,32,110,101,120,116,10]⟩:ByteArray)]:List ByteArray)) r1.f9) λAc=>Qab (Qr8 fu r1) λAa=>Qfc fu Aa fu Ac 0
def Qom (fu:Nat) (c1:Cur) (Ab:List ByteArray):Option (ByteArray×Cur) :=
  Qab (Qal fu c1 (Ab.length:Int)) λAa=>Qab (ix Ab Aa.1) λAc=>some (Ac,(⟨c1.fb,Aa.2.fi,Aa.2.fh⟩:Cur))
def Qrw (fu:Nat) (c1:Cur):Option (ByteArray×Cur) :=
  Qab (Qrz fu c1) λx8=>Qab (Qit fu x8.1) λAd=>Qab (Jki Ad) λAb=>Qab (Qal fu (⟨c1.fb,x8.2.fi,x8.2.fh⟩:Cur) (w64 ((Ab.length:Int)+1))) λAc=>Qab (Qal fu (⟨c1.fb,Ac.2.fi,Ac.2.fh⟩:Cur) 10) λAa=>bif (Aa.1==0) then Qab (sls Ab 0 Ac.1) λAk=>Qab (Q8m Ak) λAl=>some (Al,(⟨c1.fb,Aa.2.fi,Aa.2.fh⟩:Cur)) else bif (Aa.1==1) then Qab (sls Ab 0 Ac.1) λAo=>Qab (Q8m Ao) λAp=>Qab (sls Ab Ac.1 (Ab.length:Int)) λAr=>Qab (Q8m Ar) λAg=>Qab (Qom fu (⟨c1.fb,Aa.2.fi,Aa.2.fh⟩:Cur) (([(⟨#[120]⟩:ByteArray),(⟨#[32]⟩:ByteArray),(⟨#[48]⟩:ByteArray),(⟨#[10]⟩:ByteArray),(⟨#[105,116,101,109,32,49,32,49,32,49,32,49,32,49,32,48,32,49,10]⟩:ByteArray),(⟨#[57,57,57,57,57,57,57]⟩:ByteArray)]:List ByteArray))) λAe=>Qab (Qs5 Ap Ae.1) λAt=>Qab (Qs5 At Ag) λAh=>some (Ah,(⟨c1.fb,Ae.2.fi,Ae.2.fh⟩:Cur)) else bif (Aa.1==2) then bif (decide (Ac.1<(Ab.length:Int))) then Qab (sls Ab 0 Ac.1) λAq=>Qab (Q8m Aq) λAm=>Qab (sls Ab (w64 (Ac.1+1)) (Ab.length:Int)) λAj=>Qab (Q8m Aj) λAs=>Qab (Qs5 Am As) λAi=>some (Ai,(⟨c1.fb,Aa.2.fi,Aa.2.fh⟩:Cur)) else some (Ad,(⟨c1.fb,Aa.2.fi,Aa.2.fh⟩:Cur)) else bif (Aa.1==3) then Qab (Qom fu (⟨c1.fb,Aa.2.fi,Aa.2.fh⟩:Cur) (([(⟨#[]⟩:ByteArray),(⟨#[119,97,121,32,102,105,114,115,116,10]⟩:ByteArray),(⟨#[119,97,121,10]⟩:ByteArray),(⟨#[119,97,121,32,110,101,120,116,10,112,97,108,108,101,116,32,49,32,49,32,49,32,49,10,99,108,97,115,115,101,115,32,49,10,109,97,115,116,101,114,32,49,10]⟩:ByteArray),(⟨#[119,97,121,32,110,101,120,116,10,112,97,108,108,101,116,32,49,32,49,32,49,32,48,49,10]⟩:ByteArray),(⟨#[119,97,121,32,102,105,114,115,116,10,112,97,108,108,101,116,32,49,32,49,32,49,32,49,10,99,108,97,115,115,101,115,32,49,10,109,97,115,116,101,114,32,49]⟩:ByteArray)]:List ByteArray))) λAf=>some (Af.1,(⟨c1.fb,Af.2.fi,Af.2.fh⟩:Cur)) else some (Ad,(⟨c1.fb,Aa.2.fi,Aa.2.fh⟩:Cur))
def Qd1 (fu:Nat) (x1:Int):Option (Bool) :=
  Qab (Qan fu x1 1 2000) λx2=>some (x2)
def Qg6 (fu:Nat) (x1:Pallet):Option (Bool) :=
  Qab (Qd1 fu x1.fW) λx5=>bif x5 then Qab (Qd1 fu x1.fD) λAb=>bif Ab then Qab (Qd1 fu x1.fH) λAc=>bif Ac then Qab (Qan fu x1.fQ 1 100000) λAa=>some (Aa) else some (false) else some (false) else some (false)
def Qm1 (fu:Nat) (x1:Int):Option (Bool) :=
  Qab (Qan fu x1 0 999) λx2=>some (x2)
def Qr0 (fu:Nat) (x1:Typ):Option (Bool) :=
  Qab (Qm1 fu x1.f8) λx5=>bif x5 then Qab (Qd1 fu x1.fW) λAf=>bif Af then Qab (Qd1 fu x1.fH) λAd=>bif Ad then Qab (Qd1 fu x1.fD) λAa=>bif Aa then Qab (Qan fu x1.fK 0 100000) λAb=>bif Ab then Qab (Qan fu x1.fQ 1 100000) λAc=>bif Ac then Qab (Qan fu x1.fL 0 100000) λAe=>some (Ae) else some (false) else some (false) else some (false) else some (false) else some (false) else some (false)
def Qr6 (fu:Nat) (x1:Item):Option (Bool) :=
  Qab (Qm1 fu x1.f8) λx5=>bif x5 then Qab (Qd1 fu x1.fW) λAf=>bif Af then Qab (Qd1 fu x1.fH) λAd=>bif Ad then Qab (Qd1 fu x1.fD) λAa=>bif Aa then Qab (Qan fu x1.fQ 1 100000) λAb=>bif Ab then Qab (Qan fu x1.fM 0 3) λAc=>bif Ac then Qab (Qan fu x1.fF 1 6) λAe=>some (Ae) else some (false) else some (false) else some (false) else some (false) else some (false) else some (false)
def Qoq (fu:Nat) (k4:Int→Option (Bool)) (Aa:Int)  : Option (Bool) :=
  k4 (w64 (Aa+1))
def Qk3 (fu:Nat)  (r1:Request) (k7:Int→Int→Option (Bool)) (Ac:Int) (Aa:Int):Option (Bool) :=
  bif (decide (Aa<(r1.fV.length:Int))) then Qab (ix r1.fV Aa) λAb=>Qab (Qr6 fu Ab) λAd=>bif (!Ad) then some (false) else Qab (ix r1.fV Aa) λAe=>k7 (w64 (Ac+Ab.fF)) (w64 (Aa+1)) else some (decide (Ac≤12))
def Qdn (fu:Nat)  (r1:Request):Nat→Int→Int→Option (Bool)
  | 0=>λ_ _=>none
  | n+1=>Qk3 fu r1 (Qdn fu r1 n)
def Qkt (fu:Nat)  (r1:Request) (k6:Int→Option (Bool)) (Aa:Int):Option (Bool) :=
  bif (decide (Aa<(r1.fG.length:Int))) then Qab (ix r1.fG Aa) λAb=>Qab (Qr0 fu Ab) λAc=>bif (!Ac) then some (false) else k6 (w64 (Aa+1)) else Qdn fu r1 fu 0 0
def Qds (fu:Nat)  (r1:Request):Nat→Int→Option (Bool)
  | 0=>λ_=>none
  | n+1=>Qkt fu r1 (Qds fu r1 n)
def Qkq (fu:Nat)  (r1:Request) (k4:Int→Option (Bool)) (Aa:Int):Option (Bool) :=
  bif (decide (Aa<(r1.fT.length:Int))) then Qab (ix r1.fT Aa) λAb=>Qab (Qan fu Ab.fA 0 3) λAc=>bif (!Ac) then some (false) else Qab (ix r1.fT Aa) λAe=>Qab (Qan fu Ab.fB 0 3) λAd=>bif (!Ad) then some (false) else Qoq fu k4 Aa else Qds fu r1 fu 0
def Qdo (fu:Nat)  (r1:Request):Nat→Int→Option (Bool)
  | 0=>λ_=>none
  | n+1=>Qkq fu r1 (Qdo fu r1 n)
def Qnu (fu:Nat) (r1:Request)  : Option (Bool) :=
  Qdo fu r1 fu 0
def Qn2 (fu:Nat) (r1:Request):Option (Bool) :=
  Qab (Qan fu r1.f9 0 1) λAd=>bif (!Ad) then some (false) else Qab (Qg6 fu r1.fJ) λAb=>bif (!Ab) then some (false) else Qab (Qan fu r1.fU 1 4) λAc=>bif (!Ac) then some (false) else bif (decide ((r1.fT.length:Int)>16)) then some (false) else Qab (Qan fu (r1.fG.length:Int) 1 5) λAa=>bif (!Aa) then some (false) else Qab (Qm1 fu r1.fR) λAe=>bif (!Ae) then some (false) else bif (decide ((r1.fV.length:Int)>8)) then some (false) else Qnu fu r1
def Qks (fu:Nat)  (r1:Request) (k1:Int→Option (Typ×Bool)) (Aa:Int):Option (Typ×Bool) :=
  bif (decide (Aa<(r1.fG.length:Int))) then Qab (ix r1.fG Aa) λAb=>bif (Ab.f8==r1.fR) then Qab (ix r1.fG Aa) λAc=>some (Ab,true) else k1 (w64 (Aa+1)) else some ((⟨0,0,0,0,0,0,0⟩:Typ),false)
def Qfz (fu:Nat)  (r1:Request):Nat→Int→Option (Typ×Bool)
  | 0=>λ_=>none
  | n+1=>Qks fu r1 (Qfz fu r1 n)
def Qfo (fu:Nat) (r1:Request):Option (Typ×Bool) :=
  Qfz fu r1 fu 0
def Qmi (fu:Nat) (k3:Int→Option (Bool)) (r1:Request) (Ab:Int) (k4:Int→Option (Bool)) (Aa:Int):Option (Bool) :=
  bif (decide (Aa<Ab)) then Qab (ix r1.fG Ab) λAd=>Qab (ix r1.fG Aa) λAc=>bif (Ad.f8==Ac.f8) then some (false) else k4 (w64 (Aa+1)) else k3 (w64 (Ab+1))
def Qd7 (fu:Nat) (k3:Int→Option (Bool)) (r1:Request) (Aa:Int):Nat→Int→Option (Bool)
  | 0=>λ_=>none
  | n+1=>Qmi fu k3 r1 Aa (Qd7 fu k3 r1 Aa n)
def Qm5 (fu:Nat) (k7:Int→Option (Bool)) (r1:Request) (Aa:Int) (k8:Int→Option (Bool)) (Ab:Int):Option (Bool) :=
  bif (decide (Ab<Aa)) then Qab (ix r1.fV Aa) λAd=>Qab (ix r1.fV Ab) λAc=>bif (Ad.f8==Ac.f8) then some (false) else k8 (w64 (Ab+1)) else k7 (w64 (Aa+1))
def Qd6 (fu:Nat) (k7:Int→Option (Bool)) (r1:Request) (Aa:Int):Nat→Int→Option (Bool)
  | 0=>λ_=>none
  | n+1=>Qm5 fu k7 r1 Aa (Qd6 fu k7 r1 Aa n)
def Qp0 (fu:Nat) (Ab:Int→Option (Bool)) (Aa:Int)  : Option (Bool) :=
  Ab (w64 (Aa+1))
def Qnd (fu:Nat)  (r1:Request) (Ac:Int→Option (Bool)) (Aa:Int):Option (Bool) :=
  bif (decide (Aa<(r1.fT.length:Int))) then Qab (ix r1.fT Aa) λAb=>bif (decide (Ab.fA≥r1.fU)) then some (false) else Qab (ix r1.fT Aa) λAe=>bif (decide (Ab.fB≥r1.fU)) then some (false) else Qp0 fu Ac Aa else Qab (Qfo fu r1) λAd=>some (Ad.2)
def Qda (fu:Nat)  (r1:Request):Nat→Int→Option (Bool)
  | 0=>λ_=>none
  | n+1=>Qnd fu r1 (Qda fu r1 n)
def Qnj (fu:Nat)  (r1:Request) (k7:Int→Option (Bool)) (Aa:Int):Option (Bool) :=
  bif (decide (Aa<(r1.fV.length:Int))) then Qab (ix r1.fV Aa) λAb=>bif (decide (Ab.fM≥r1.fU)) then some (false) else Qd6 fu k7 r1 Aa fu 0 else Qda fu r1 fu 0
def Qbh (fu:Nat)  (r1:Request):Nat→Int→Option (Bool)
  | 0=>λ_=>none
  | n+1=>Qnj fu r1 (Qbh fu r1 n)
def Qnn (fu:Nat)  (r1:Request) (k3:Int→Option (Bool)) (Aa:Int):Option (Bool) :=
  bif (decide (Aa<(r1.fG.length:Int))) then Qd7 fu k3 r1 Aa fu 0 else Qbh fu r1 fu 0
def Qbl (fu:Nat)  (r1:Request):Nat→Int→Option (Bool)
  | 0=>λ_=>none
  | n+1=>Qnn fu r1 (Qbl fu r1 n)
def Qqn (fu:Nat) (r1:Request):Option (Bool) :=
  Qbl fu r1 fu 0
def Ql0 (fu:Nat) (k3:Int→Option (Bool)) (Aa:Int)  : Option (Bool) :=
  k3 (w64 (Aa+1))
def Qob (fu:Nat)  (Ab:List Pair) (a5:Int) (b6:Int) (k3:Int→Option (Bool)) (Aa:Int):Option (Bool) :=
  bif (decide (Aa<(Ab.length:Int))) then Qab (ix Ab Aa) λAc=>bif (Ac.fA==a5) then Qab (ix Ab Aa) λAd=>bif (Ac.fB==b6) then some (true) else Ql0 fu k3 Aa else Ql0 fu k3 Aa else some (false)
def Qf7 (fu:Nat)  (Aa:List Pair) (a5:Int) (b6:Int):Nat→Int→Option (Bool)
  | 0=>λ_=>none
  | n+1=>Qob fu Aa a5 b6 (Qf7 fu Aa a5 b6 n)
def Qfj (fu:Nat) (Aa:List Pair) (a5:Int) (b6:Int):Option (Bool) :=
  Qf7 fu Aa a5 b6 fu 0
def Qka (fu:Nat) (Ab:Int→Option (Bool)) (Aa:Int)  : Option (Bool) :=
  Ab (w64 (Aa+1))
def Qnk (fu:Nat) (k9:Int→Option (Bool)) (Ac:List Pair) (Ah:Int) (Ab:Int) (Ad:Int→Option (Bool)) (Aa:Int):Option (Bool) :=
  bif (decide (Aa<Ah)) then bif (Ab==Aa) then Qab (Qfj fu Ac Ab Ab) λAj=>bif (!Aj) then some (false) else Qab (Qfj fu Ac Ab Aa) λAe=>Qab (Qfj fu Ac Aa Ab) λAg=>bif (!(Ae==Ag)) then some (false) else Qka fu Ad Aa else Qab (Qfj fu Ac Ab Aa) λAi=>Qab (Qfj fu Ac Aa Ab) λAf=>bif (!(Ai==Af)) then some (false) else Qka fu Ad Aa else k9 (w64 (Ab+1))
def Qec (fu:Nat) (k9:Int→Option (Bool)) (Ac:List Pair) (Ab:Int) (Aa:Int):Nat→Int→Option (Bool)
  | 0=>λ_=>none
  | n+1=>Qnk fu k9 Ac Ab Aa (Qec fu k9 Ac Ab Aa n)
def Qni (fu:Nat)  (Ac:List Pair) (Ab:Int) (k9:Int→Option (Bool)) (Aa:Int):Option (Bool) :=
  bif (decide (Aa<Ab)) then Qec fu k9 Ac Ab Aa fu 0 else some (true)
def Qdh (fu:Nat)  (Ab:List Pair) (Aa:Int):Nat→Int→Option (Bool)
  | 0=>λ_=>none
  | n+1=>Qni fu Ab Aa (Qdh fu Ab Aa n)
def Qqz (fu:Nat) (Ab:List Pair) (Aa:Int):Option (Bool) :=
  Qab (Qan fu Aa 1 4) λx6=>bif (!x6) then some (false) else Qdh fu Ab Aa fu 0
def Qkw (fu:Nat)  (n1:Int) (k1:List Int→Int→Option ((List Int))) (Ab:List Int) (Aa:Int):Option ((List Int)) :=
  bif (decide (Aa<n1)) then Qab (Qc7 8 Ab (([Aa]:List Int))) λAc=>k1 Ac (w64 (Aa+1)) else some (Ab)
def Qft (fu:Nat)  (n1:Int):Nat→List Int→Int→Option ((List Int))
  | 0=>λ_ _=>none
  | n+1=>Qkw fu n1 (Qft fu n1 n)
def Qjh (fu:Nat) (n1:Int):Option ((List Int)) :=
  Qft fu n1 fu (([]:List Int)) 0
def Qh9 (fu:Nat) (k3:List Int→Int→Int→Option ((List Int))) (Ag:List Int) (Ak:Bool) (Ac:(List Int)) (Ae:(List Int)) (Ad:List Int) (Aa:Int) (Ab:Int)  : Option ((List Int)) :=
  bif (Ab==(Ae.length:Int)) then Qab (ix Ac Aa) λAp=>Qab (Qc7 8 Ad (([Ap]:List Int))) λAs=>k3 As (w64 (Aa+1)) Ab else bif (Aa==(Ac.length:Int)) then Qab (ix Ae Ab) λAt=>Qab (Qc7 8 Ad (([At]:List Int))) λAo=>k3 Ao Aa (w64 (Ab+1)) else Qab (ix Ae Ab) λAh=>Qab (ix Ag Ah) λAj=>Qab (ix Ac Aa) λAf=>Qab (ix Ag Af) λAi=>bif (decide (Aj<Ai)) then bif (!Ak) then Qab (ix Ae Ab) λAy=>Qab (Qc7 8 Ad (([Ah]:List Int))) λAw=>k3 Aw Aa (w64 (Ab+1)) else Qab (ix Ae Ab) λBi=>Qab (ix Ag Ah) λBl=>Qab (ix Ac Aa) λBh=>Qab (ix Ag Af) λBa=>bif (decide (Aj>Ai)) then bif Ak then Qab (ix Ae Ab) λAz=>Qab (Qc7 8 Ad (([Ah]:List Int))) λAu=>k3 Au Aa (w64 (Ab+1)) else Qab (ix Ac Aa) λBd=>Qab (Qc7 8 Ad (([Af]:List Int))) λAv=>k3 Av (w64 (Aa+1)) Ab else Qab (ix Ac Aa) λBc=>Qab (Qc7 8 Ad (([Af]:List Int))) λAr=>k3 Ar (w64 (Aa+1)) Ab else Qab (ix Ae Ab) λBf=>Qab (ix Ag Ah) λBj=>Qab (ix Ac Aa) λBg=>Qab (ix Ag Af) λAx=>bif (decide (Aj>Ai)) then bif Ak then Qab (ix Ae Ab) λBb=>Qab (Qc7 8 Ad (([Ah]:List Int))) λAq=>k3 Aq Aa (w64 (Ab+1)) else Qab (ix Ac Aa) λBk=>Qab (Qc7 8 Ad (([Af]:List Int))) λAl=>k3 Al (w64 (Aa+1)) Ab else Qab (ix Ac Aa) λBe=>Qab (Qc7 8 Ad (([Af]:List Int))) λAm=>k3 Am (w64 (Aa+1)) Ab
def Qml (fu:Nat)  (Ag:List Int) (Af:Bool) (Ae:(List Int)) (Ad:(List Int)) (k3:List Int→Int→Int→Option ((List Int))) (Ab:List Int) (Ac:Int) (Aa:Int):Option ((List Int)) :=
  bif (decide (Ac<(Ae.length:Int))) then Qh9 fu k3 Ag Af Ae Ad Ab Ac Aa else bif (decide (Aa<(Ad.length:Int))) then Qh9 fu k3 Ag Af Ae Ad Ab Ac Aa else some (Ab)
def Qce (fu:Nat)  (Ab:List Int) (Ac:Bool) (Ad:(List Int)) (Aa:(List Int)):Nat→List Int→Int→Int→Option ((List Int))
  | 0=>λ_ _ _=>none
  | n+1=>Qml fu Ab Ac Ad Aa (Qce fu Ab Ac Ad Aa n)
def Qt2 (fu:Nat) (self:List Int→List Int→Bool→Option ((List Int))) (Ac:List Int) (Aa:List Int) (Ab:Bool):Option ((List Int)) :=
  bif (decide ((Aa.length:Int)<2)) then Qab (Qc7 8 (([]:List Int)) Aa) λAe=>some (Ae) else Qab (sls Aa 0 (w64 (Int.tdiv (Aa.length:Int) 2))) λAd=>Qab (self Ac Ad Ab) λAh=>Qab (sls Aa (w64 (Int.tdiv (Aa.length:Int) 2)) (Aa.length:Int)) λAf=>Qab (self Ac Af Ab) λAg=>Qce fu Ac Ab Ah Ag fu (([]:List Int)) 0 0
def Qir (fu:Nat):Nat→List Int→List Int→Bool→Option ((List Int))
  | 0=>λ_ _ _=>none
  | n+1=>Qt2 fu (Qir fu n)
def Qlf (fu:Nat) (Ab:List Int) (Aa:List Int) (Ac:Bool):Option ((List Int)):=Qir fu fu Ab Aa Ac
def Qoj (fu:Nat) (Aa:List Int):Option ((List Int)) :=
  Qab (Qjh fu (Aa.length:Int)) λx5=>Qab (Qlf fu Aa x5 false) λAb=>some (Ab)
def Qli (fu:Nat) (Aa:Int) (h2:Int) (d3:Int):Option ((List Int)) :=
  Qab (Qoj fu (([Aa,h2,d3]:List Int))) λx9=>Qab (ix x9 0) λAf=>Qab (ix (([Aa,h2,d3]:List Int)) Af) λAb=>Qab (ix x9 1) λAc=>Qab (ix (([Aa,h2,d3]:List Int)) Ac) λAd=>Qab (ix x9 2) λAg=>Qab (ix (([Aa,h2,d3]:List Int)) Ag) λAe=>some (([Ab,Ad,Ae]:List Int))
def Qps (fu:Nat) (x1:Item) (t2:Typ):Option (Bool) :=
  Qab (Qli fu x1.fW x1.fH x1.fD) λAa=>Qab (Qli fu t2.fW t2.fH t2.fD) λAb=>Qab (ix Aa 0) λAf=>Qab (ix Ab 0) λAd=>bif (decide (Af≤Ad)) then Qab (ix Aa 1) λAc=>Qab (ix Ab 1) λAg=>bif (decide (Ac≤Ag)) then Qab (ix Aa 2) λAe=>Qab (ix Ab 2) λAh=>bif (decide (Ae≤Ah)) then some (decide (x1.fQ≤t2.fQ)) else some (false) else some (false) else some (false)
def Qsw (fu:Nat) (k4:Int→Option (Int)) (Aa:Int)  : Option (Int) :=
  k4 (w64 (Aa+1))
def Qp8 (fu:Nat)  (r1:Request) (k4:Int→Option (Int)) (Ab:Int):Option (Int) :=
  bif (decide (Ab<(r1.fG.length:Int))) then Qab (ix r1.fG Ab) λAa=>bif (decide (Aa.fW>r1.fJ.fW)) then some (6) else bif (decide (Aa.fD>r1.fJ.fD)) then some (6) else bif (decide (Aa.fH>r1.fJ.fH)) then some (6) else bif (decide ((w64 (Aa.fK+Aa.fQ))>r1.fJ.fQ)) then some (6) else Qsw fu k4 Ab else some (0)
def Qfl (fu:Nat)  (r1:Request):Nat→Int→Option (Int)
  | 0=>λ_=>none
  | n+1=>Qp8 fu r1 (Qfl fu r1 n)
def Qp1 (fu:Nat)  (r1:Request) (Ab:Typ×Bool) (k1:Int→Option (Int)) (Aa:Int):Option (Int) :=
  bif (decide (Aa<(r1.fV.length:Int))) then Qab (ix r1.fV Aa) λAd=>Qab (Qps fu Ad Ab.1) λAc=>bif (!Ac) then some (5) else k1 (w64 (Aa+1)) else Qfl fu r1 fu 0
def Qg4 (fu:Nat)  (r1:Request) (Aa:Typ×Bool):Nat→Int→Option (Int)
  | 0=>λ_=>none
  | n+1=>Qp1 fu r1 Aa (Qg4 fu r1 Aa n)
def Qd8 (fu:Nat) (r1:Request):Option (Int) :=
  Qab (Qn2 fu r1) λAc=>bif (!Ac) then some (2) else Qab (Qqn fu r1) λAb=>bif (!Ab) then some (3) else Qab (Qqz fu r1.fT r1.fU) λAd=>bif (!Ad) then some (4) else Qab (Qfo fu r1) λAa=>Qg4 fu r1 Aa fu 0
def Qlp (fu:Nat) (k3:List Item→Int→Option (Request×Cur)) (Ab:Int) (Aa:List Item):Option (Request×Cur) :=
  k3 Aa (w64 (Ab+1))
def Qpe (fu:Nat)  (c1:Cur) (Aa:Request×Cur) (Ae:Typ×Bool) (k3:List Item→Int→Option (Request×Cur)) (Ac:List Item) (Ab:Int):Option (Request×Cur) :=
  bif (decide (Ab<(Aa.1.fV.length:Int))) then Qab (ix Aa.1.fV Ab) λAd=>Qab (Qps fu Ad Ae.1) λAg=>bif Ag then Qab (ix Aa.1.fV Ab) λAh=>Qab (Qc7 56 Ac (([Ad]:List Item))) λAf=>Qlp fu k3 Ab Af else Qlp fu k3 Ab Ac else some ((⟨Aa.1.f9,(⟨30,25,24,400⟩:Pallet),Aa.1.fU,Aa.1.fT,Aa.1.fG,Aa.1.fR,Ac⟩:Request),(⟨c1.fb,Aa.2.fi,Aa.2.fh⟩:Cur))
def Qf1 (fu:Nat)  (c1:Cur) (Aa:Request×Cur) (Ab:Typ×Bool):Nat→List Item→Int→Option (Request×Cur)
  | 0=>λ_ _=>none
  | n+1=>Qpe fu c1 Aa Ab (Qf1 fu c1 Aa Ab n)
def Qse (fu:Nat) (c1:Cur):Option (Request×Cur) :=
  Qab (Qlg fu c1) λAa=>Qab (Qd8 fu Aa.1) λAb=>bif (Ab != 0) then Qab (Qfo fu ((⟨Aa.1.f9,(⟨30,25,24,400⟩:Pallet),Aa.1.fU,Aa.1.fT,Aa.1.fG,Aa.1.fR,Aa.1.fV⟩:Request))) λAc=>Qf1 fu c1 Aa Ac fu (([]:List Item)) 0 else some (Aa.1,(⟨c1.fb,Aa.2.fi,Aa.2.fh⟩:Cur))
def Qo9 (fu:Nat) (Ab:List U8):Option (ByteArray) :=
  Qab (Qtg fu Ab) λx5=>Qab (Qj6 fu (⟨Ab,x5.fi,x5.fh⟩:Cur) 3) λAa=>bif Aa.1 then Qab (Qrw fu (⟨Ab,Aa.2.fi,Aa.2.fh⟩:Cur)) λAe=>some (Ae.1) else Qab (Qse fu (⟨Ab,Aa.2.fi,Aa.2.fh⟩:Cur)) λAd=>Qab (Qit fu Ad.1) λAc=>some (Ac)
def Qm4 (fu:Nat) (Aa:List U8):Option (ByteArray) :=
  Qab (Qo9 fu Aa) λx5=>some (x5)
def Qox (fu:Nat) (k3:List ByteArray→Int→Int→Option ((List ByteArray))) (Ab:Int) (Ac:List ByteArray) (Aa:Int):Option ((List ByteArray)) :=
  k3 Ac Aa (w64 (Ab+1))
def Qpu (fu:Nat)  (Ab:ByteArray) (Ah:Int) (k3:List ByteArray→Int→Int→Option ((List ByteArray))) (Ad:List ByteArray) (Ac:Int) (Aa:Int):Option ((List ByteArray)) :=
  bif (decide (Aa<((Ab.size:Int)))) then Qab (sx Ab Aa) λAj=>bif (Aj==Ah) then Qab (ssl Ab Ac Aa) λAf=>Qab (Qc7 16 Ad (([Af]:List ByteArray))) λAe=>Qox fu k3 Aa Ae (w64 (Aa+1)) else Qox fu k3 Aa Ad Ac else Qab (ssl Ab Ac (Ab.size:Int)) λAg=>Qab (Qc7 16 Ad (([Ag]:List ByteArray))) λAi=>some (Ai)
def Qha (fu:Nat)  (Ab:ByteArray) (Aa:Int):Nat→List ByteArray→Int→Int→Option ((List ByteArray))
  | 0=>λ_ _ _=>none
  | n+1=>Qpu fu Ab Aa (Qha fu Ab Aa n)
def Qjq (fu:Nat) (Ab:ByteArray) (Aa:Int):Option ((List ByteArray)) :=
  Qha fu Ab Aa fu (([]:List ByteArray)) 0 0
def Qty (fu:Nat) (x1:ByteArray):Option (Int×Bool):=Jd1 x1
def Qau (fu:Nat) (n1:Int) (Ab:Int) (Aa:Int):Option (Bool) :=
  bif (decide (n1≥Ab)) then some (decide (n1≤Aa)) else some (false)
def Qtq (fu:Nat) (x1:Int):Option ByteArray:=Jc3 x1
def Qpa (fu:Nat) (n1:Int):Option (ByteArray) :=
  Qab (Qtq fu n1) λx2=>some (x2)
def Qrs (fu:Nat) (x2:Int×Bool)  : Option (Int×Bool) :=
  some (x2.1,true)
def Qii (fu:Nat) (Aa:ByteArray):Option (Int×Bool) :=
  Qab (Qty fu Aa) λx2=>bif x2.2 then some (0,false) else Qab (Qau fu x2.1 0 999999) λAb=>bif (!Ab) then some (0,false) else Qab (Qpa fu x2.1) λAc=>bif (!(Ac.toList==Aa.toList)) then some (0,false) else Qrs fu x2
def Qmt (fu:Nat)  (Ab:List ByteArray) (k2:List Int→Int→Option ((List Int)×Bool)) (Ac:List Int) (Aa:Int):Option ((List Int)×Bool) :=
  bif (decide (Aa<(Ab.length:Int))) then Qab (ix Ab Aa) λAf=>Qab (Qii fu Af) λAd=>bif (!Ad.2) then some (([]:List Int),false) else Qab (Qc7 8 Ac (([Ad.1]:List Int))) λAe=>k2 Ae (w64 (Aa+1)) else some (Ac,true)
def Qe3 (fu:Nat)  (Aa:List ByteArray):Nat→List Int→Int→Option ((List Int)×Bool)
  | 0=>λ_ _=>none
  | n+1=>Qmt fu Aa (Qe3 fu Aa n)
def Qpn (fu:Nat) (x4:(List ByteArray))  : Option ((List Int)×Bool) :=
  Qab (sls x4 1 (x4.length:Int)) λAa=>Qe3 fu Aa fu (([]:List Int)) 0
def Qbo (fu:Nat) (Ac:ByteArray) (Ad:ByteArray) (Aa:Int):Option ((List Int)×Bool) :=
  Qab (Qjq fu Ac 32) λx4=>Qab (ix x4 0) λAb=>bif (!(Ab.toList==Ad.toList)) then some (([]:List Int),false) else bif ((x4.length:Int) != (w64 (Aa+1))) then some (([]:List Int),false) else Qpn fu x4
def Qqh (fu:Nat) (r1:Request) (Aa:ByteArray):Option (Int×Request) :=
  bif (Aa.toList==(⟨#[119,97,121,32,102,105,114,115,116]⟩:ByteArray).toList) then some (0,(⟨0,r1.fJ,r1.fU,r1.fT,r1.fG,r1.fR,r1.fV⟩:Request)) else bif (Aa.toList==(⟨#[119,97,121,32,110,101,120,116]⟩:ByteArray).toList) then some (0,(⟨1,r1.fJ,r1.fU,r1.fT,r1.fG,r1.fR,r1.fV⟩:Request)) else Qab (Qbo fu Aa (⟨#[112,97,108,108,101,116]⟩:ByteArray) 4) λAd=>bif Ad.2 then Qab (ix Ad.1 0) λAw=>Qab (ix Ad.1 1) λBc=>Qab (ix Ad.1 2) λBg=>Qab (ix Ad.1 3) λAl=>some (1,(⟨r1.f9,(⟨Aw,Bc,Bg,Al⟩:Pallet),r1.fU,r1.fT,r1.fG,r1.fR,r1.fV⟩:Request)) else Qab (Qbo fu Aa (⟨#[99,108,97,115,115,101,115]⟩:ByteArray) 1) λAg=>bif Ag.2 then Qab (ix Ag.1 0) λAi=>some (2,(⟨r1.f9,r1.fJ,Ai,r1.fT,r1.fG,r1.fR,r1.fV⟩:Request)) else Qab (Qbo fu Aa (⟨#[119,105,116,104]⟩:ByteArray) 2) λAe=>bif Ae.2 then Qab (ix Ae.1 0) λAy=>Qab (ix Ae.1 1) λAz=>Qab (Qc7 16 r1.fT (([(⟨Ay,Az⟩:Pair)]:List Pair))) λAh=>some (3,(⟨r1.f9,r1.fJ,r1.fU,Ah,r1.fG,r1.fR,r1.fV⟩:Request)) else Qab (Qbo fu Aa (⟨#[116,121,112,101]⟩:ByteArray) 7) λAb=>bif Ab.2 then Qab (ix Ab.1 0) λAu=>Qab (ix Ab.1 1) λAx=>Qab (ix Ab.1 2) λBa=>Qab (ix Ab.1 3) λAo=>Qab (ix Ab.1 4) λAs=>Qab (ix Ab.1 5) λAp=>Qab (ix Ab.1 6) λBd=>Qab (Qc7 56 r1.fG (([(⟨Au,Ax,Ba,Ao,As,Ap,Bd⟩:Typ)]:List Typ))) λAr=>some (4,(⟨r1.f9,r1.fJ,r1.fU,r1.fT,Ar,r1.fR,r1.fV⟩:Request)) else Qab (Qbo fu Aa (⟨#[109,97,115,116,101,114]⟩:ByteArray) 1) λAf=>bif Af.2 then Qab (ix Af.1 0) λBe=>some (5,(⟨r1.f9,r1.fJ,r1.fU,r1.fT,r1.fG,Be,r1.fV⟩:Request)) else Qab (Qbo fu Aa (⟨#[105,116,101,109]⟩:ByteArray) 7) λAc=>bif Ac.2 then Qab (ix Ac.1 0) λAk=>Qab (ix Ac.1 1) λAj=>Qab (ix Ac.1 2) λBf=>Qab (ix Ac.1 3) λAm=>Qab (ix Ac.1 4) λBb=>Qab (ix Ac.1 5) λAv=>Qab (ix Ac.1 6) λAt=>Qab (Qc7 56 r1.fV (([(⟨Ak,Aj,Bf,Am,Bb,Av,At⟩:Item)]:List Item))) λAq=>some (6,(⟨r1.f9,r1.fJ,r1.fU,r1.fT,r1.fG,r1.fR,Aq⟩:Request)) else some ((-1),r1)
def Qg7 (fu:Nat)   : Option (Bool) :=
  some (false)
def Qls (fu:Nat) (Aa:Int) (Ab:Int):Option (Bool) :=
  bif (Ab==0) then bif (Ab==0) then some (Aa==(w64 (Ab - 1))) else bif (Ab==3) then bif (Aa==2) then some (true) else some (Aa==3) else bif (Ab==4) then Qab (Qau fu Aa 2 4) λAd=>some (Ad) else bif (Ab==5) then Qab (Qau fu Aa 2 4) λAg=>some (Ag) else bif (Ab==6) then bif (Aa==5) then some (true) else some (Aa==6) else Qg7 fu else bif (Ab==1) then bif (Ab==1) then some (Aa==(w64 (Ab - 1))) else bif (Ab==3) then bif (Aa==2) then some (true) else some (Aa==3) else bif (Ab==4) then Qab (Qau fu Aa 2 4) λAc=>some (Ac) else bif (Ab==5) then Qab (Qau fu Aa 2 4) λAf=>some (Af) else bif (Ab==6) then bif (Aa==5) then some (true) else some (Aa==6) else Qg7 fu else bif (Ab==2) then some (Aa==(w64 (Ab - 1))) else bif (Ab==3) then bif (Aa==2) then some (true) else some (Aa==3) else bif (Ab==4) then Qab (Qau fu Aa 2 4) λAh=>some (Ah) else bif (Ab==5) then Qab (Qau fu Aa 2 4) λAe=>some (Ae) else bif (Ab==6) then bif (Aa==5) then some (true) else some (Aa==6) else Qg7 fu
def Qjk (fu:Nat)  (x5:(List ByteArray)) (Ad:List ByteArray) (k1:Int→Int→Int→Int→Int→Int→List Pair→List Typ→Int→List Item→Int→Int→Option (Request×Int)) (Am:Int) (Ag:Int) (Ao:Int) (Al:Int) (Af:Int) (Ac:Int) (Ak:List Pair) (Ah:List Typ) (Ae:Int) (Ai:List Item) (Aj:Int) (Ab:Int):Option (Request×Int) :=
  bif (decide (Ab<(Ad.length:Int))) then Qab (ix Ad Ab) λAr=>Qab (Qqh fu ((⟨Am,(⟨Ag,Ao,Al,Af⟩:Pallet),Ac,Ak,Ah,Ae,Ai⟩:Request)) Ar) λAa=>Qab (Qls fu Aj Aa.1) λAp=>bif (!Ap) then some ((⟨0,(⟨0,0,0,0⟩:Pallet),0,[],[],0,[]⟩:Request),Ab) else k1 Aa.2.f9 Aa.2.fJ.fW Aa.2.fJ.fD Aa.2.fJ.fH Aa.2.fJ.fQ Aa.2.fU Aa.2.fT Aa.2.fG Aa.2.fR Aa.2.fV Aa.1 (w64 (Ab+1)) else bif (decide (Aj<5)) then some ((⟨0,(⟨0,0,0,0⟩:Pallet),0,[],[],0,[]⟩:Request),w64 ((x5.length:Int) - 1)) else Qab (ix x5 (w64 ((x5.length:Int) - 1))) λAq=>bif (!(Aq.toList==(⟨#[]⟩:ByteArray).toList)) then some ((⟨0,(⟨0,0,0,0⟩:Pallet),0,[],[],0,[]⟩:Request),w64 ((x5.length:Int) - 1)) else some ((⟨Am,(⟨Ag,Ao,Al,Af⟩:Pallet),Ac,Ak,Ah,Ae,Ai⟩:Request),(-1))
def Qez (fu:Nat)  (x5:(List ByteArray)) (Aa:List ByteArray):Nat→Int→Int→Int→Int→Int→Int→List Pair→List Typ→Int→List Item→Int→Int→Option (Request×Int)
  | 0=>λ_ _ _ _ _ _ _ _ _ _ _ _=>none
  | n+1=>Qjk fu x5 Aa (Qez fu x5 Aa n)
def Qio (fu:Nat) (Aa:ByteArray):Option (Request×Int) :=
  Qab (Qjq fu Aa 10) λx5=>bif (decide ((w64 ((x5.length:Int) - 1))>60)) then some ((⟨0,(⟨0,0,0,0⟩:Pallet),0,[],[],0,[]⟩:Request),60) else Qab (sls x5 0 (w64 ((x5.length:Int) - 1))) λAb=>Qez fu x5 Ab fu 0 0 0 0 0 0 (([]:List Pair)) (([]:List Typ)) 0 (([]:List Item)) ((-1)) 0
def Qp7 (fu:Nat) (t1:Typ) (x2:Int):Option (Bool) :=
  some (t1.f8==x2)
def Qcm (fu:Nat)  (Ab:List Typ) (f5:Typ→Option Bool) (k1:Int→Option (Int)) (Aa:Int):Option (Int) :=
  bif (decide (Aa<(Ab.length:Int))) then Qab (ix Ab Aa) λAc=>Qab (f5 Ac) λAd=>bif Ad then some (Aa) else k1 (w64 (Aa+1)) else some ((-1))
def Qa4 (fu:Nat)  (Aa:List Typ) (f5:Typ→Option Bool):Nat→Int→Option (Int)
  | 0=>λ_=>none
  | n+1=>Qcm fu Aa f5 (Qa4 fu Aa f5 n)
def Qbm (fu:Nat) (Aa:List Typ) (f5:Typ→Option Bool):Option (Int) :=
  Qa4 fu Aa f5 fu 0
def Qh4 (fu:Nat) (r1:Request) (Ad:Int):Option (Typ×Bool) :=
  Qab (Qbm fu r1.fG (λAb=>Qp7 fu Ab Ad)) λAa=>bif (decide (Aa<0)) then some ((⟨0,0,0,0,0,0,0⟩:Typ),false) else Qab (ix r1.fG Aa) λAc=>some (Ac,true)
def Qh7 (fu:Nat) (r1:Request):Option (Typ×Bool) :=
  Qab (Qh4 fu r1 r1.fR) λAa=>some (Aa.1,Aa.2)
def Qde (fu:Nat) (n1:Int):Option (Bool) :=
  Qab (Qau fu n1 1 2000) λx2=>some (x2)
def Qek (fu:Nat) (x1:Pallet):Option (Bool) :=
  Qab (Qde fu x1.fW) λx5=>bif x5 then Qab (Qde fu x1.fD) λAb=>bif Ab then Qab (Qde fu x1.fH) λAc=>bif Ac then Qab (Qau fu x1.fQ 1 100000) λAa=>some (Aa) else some (false) else some (false) else some (false)
def Qcn (fu:Nat)  (Ab:List Pair) (f5:Pair→Option Bool) (k1:Int→Option (Int)) (Aa:Int):Option (Int) :=
  bif (decide (Aa<(Ab.length:Int))) then Qab (ix Ab Aa) λAc=>Qab (f5 Ac) λAd=>bif Ad then some (Aa) else k1 (w64 (Aa+1)) else some ((-1))
def Qa1 (fu:Nat)  (Aa:List Pair) (f5:Pair→Option Bool):Nat→Int→Option (Int)
  | 0=>λ_=>none
  | n+1=>Qcn fu Aa f5 (Qa1 fu Aa f5 n)
def Qb9 (fu:Nat) (Aa:List Pair) (f5:Pair→Option Bool):Option (Int) :=
  Qa1 fu Aa f5 fu 0
def Qa5 (fu:Nat) (Aa:List Pair) (f5:Pair→Option Bool):Option (Bool) :=
  Qab (Qb9 fu Aa f5) λAb=>some (decide (Ab≥0))
def Qj8 (fu:Nat) (p1:Pair):Option (Bool) :=
  Qab (Qau fu p1.fA 0 3) λx5=>bif (!x5) then some (true) else Qab (Qau fu p1.fB 0 3) λAa=>some (!Aa)
def Qav (fu:Nat) (Aa:List Typ) (f5:Typ→Option Bool):Option (Bool) :=
  Qab (Qbm fu Aa f5) λAb=>some (decide (Ab≥0))
def Qrv (fu:Nat) (x1:Typ):Option (Bool) :=
  Qab (Qau fu x1.f8 0 999) λx5=>bif x5 then Qab (Qde fu x1.fW) λAf=>bif Af then Qab (Qde fu x1.fH) λAd=>bif Ad then Qab (Qde fu x1.fD) λAa=>bif Aa then Qab (Qau fu x1.fK 0 100000) λAb=>bif Ab then Qab (Qau fu x1.fQ 1 100000) λAc=>bif Ac then Qab (Qau fu x1.fL 0 100000) λAe=>some (Ae) else some (false) else some (false) else some (false) else some (false) else some (false) else some (false)
def Qki (fu:Nat) (t1:Typ):Option (Bool) :=
  Qab (Qrv fu t1) λx5=>some (!x5)
def Qr7 (fu:Nat) (x1:Item):Option (Bool) :=
  Qab (Qau fu x1.f8 0 999) λx5=>bif x5 then Qab (Qde fu x1.fW) λAf=>bif Af then Qab (Qde fu x1.fH) λAd=>bif Ad then Qab (Qde fu x1.fD) λAa=>bif Aa then Qab (Qau fu x1.fQ 1 100000) λAb=>bif Ab then Qab (Qau fu x1.fM 0 3) λAc=>bif Ac then Qab (Qau fu x1.fF 1 6) λAe=>some (Ae) else some (false) else some (false) else some (false) else some (false) else some (false) else some (false)
def Qkp (fu:Nat)  (r1:Request) (k3:Int→Int→Option (Bool)) (Ab:Int) (Aa:Int):Option (Bool) :=
  bif (decide (Aa<(r1.fV.length:Int))) then Qab (ix r1.fV Aa) λAc=>Qab (Qr7 fu Ac) λAd=>bif (!Ad) then some (false) else k3 (w64 (Ab+Ac.fF)) (w64 (Aa+1)) else some (decide (Ab≤12))
def Qef (fu:Nat)  (r1:Request):Nat→Int→Int→Option (Bool)
  | 0=>λ_ _=>none
  | n+1=>Qkp fu r1 (Qef fu r1 n)
def Qoh (fu:Nat) (r1:Request)  : Option (Bool) :=
  Qef fu r1 fu 0 0
def Qny (fu:Nat) (r1:Request)  : Option (Bool) :=
  Qab (Qa5 fu r1.fT (λAd=>Qj8 fu Ad)) λAe=>bif Ae then some (false) else Qab (Qau fu (r1.fG.length:Int) 1 5) λAb=>bif (!Ab) then some (false) else Qab (Qav fu r1.fG (λAa=>Qki fu Aa)) λAf=>bif Af then some (false) else Qab (Qau fu r1.fR 0 999) λAc=>bif (!Ac) then some (false) else bif (decide ((r1.fV.length:Int)>8)) then some (false) else Qoh fu r1
def Qov (fu:Nat) (r1:Request):Option (Bool) :=
  Qab (Qau fu r1.f9 0 1) λAa=>bif (!Aa) then some (false) else Qab (Qek fu r1.fJ) λAc=>bif (!Ac) then some (false) else Qab (Qau fu r1.fU 1 4) λAb=>bif (!Ab) then some (false) else bif (decide ((r1.fT.length:Int)>16)) then some (false) else Qny fu r1
def Qrm (fu:Nat) (q1:Typ) (x2:Typ):Option (Bool) :=
  some (q1.f8==x2.f8)
def Qrj (fu:Nat) (q1:Item) (x2:Item):Option (Bool) :=
  some (q1.f8==x2.f8)
def Qco (fu:Nat)  (Ab:List Item) (f5:Item→Option Bool) (k1:Int→Option (Int)) (Aa:Int):Option (Int) :=
  bif (decide (Aa<(Ab.length:Int))) then Qab (ix Ab Aa) λAc=>Qab (f5 Ac) λAd=>bif Ad then some (Aa) else k1 (w64 (Aa+1)) else some ((-1))
def Qa2 (fu:Nat)  (Aa:List Item) (f5:Item→Option Bool):Nat→Int→Option (Int)
  | 0=>λ_=>none
  | n+1=>Qco fu Aa f5 (Qa2 fu Aa f5 n)
def Qb8 (fu:Nat) (Aa:List Item) (f5:Item→Option Bool):Option (Int) :=
  Qa2 fu Aa f5 fu 0
def Qa3 (fu:Nat) (Aa:List Item) (f5:Item→Option Bool):Option (Bool) :=
  Qab (Qb8 fu Aa f5) λAb=>some (decide (Ab≥0))
def Qlr (fu:Nat) (p1:Pair) (x2:Request):Option (Bool) :=
  bif (decide (p1.fA≥x2.fU)) then some (true) else some (decide (p1.fB≥x2.fU))
def Qpo (fu:Nat) (k4:Int→Option (Bool)) (Aa:Int)  : Option (Bool) :=
  k4 (w64 (Aa+1))
def Qna (fu:Nat)  (r1:Request) (k4:Int→Option (Bool)) (Aa:Int):Option (Bool) :=
  bif (decide (Aa<(r1.fV.length:Int))) then Qab (ix r1.fV Aa) λAb=>bif (decide (Ab.fM≥r1.fU)) then some (false) else Qab (sls r1.fV 0 Aa) λAd=>Qab (Qa3 fu Ad (λAe=>Qrj fu Ae Ab)) λAh=>bif Ah then some (false) else Qpo fu k4 Aa else Qab (Qh7 fu r1) λAc=>bif Ac.2 then Qab (Qa5 fu r1.fT (λAf=>Qlr fu Af r1)) λAg=>some (!Ag) else some (false)
def Qdb (fu:Nat)  (r1:Request):Nat→Int→Option (Bool)
  | 0=>λ_=>none
  | n+1=>Qna fu r1 (Qdb fu r1 n)
def Qm2 (fu:Nat)  (r1:Request) (k1:Int→Option (Bool)) (Aa:Int):Option (Bool) :=
  bif (decide (Aa<(r1.fG.length:Int))) then Qab (ix r1.fG Aa) λAc=>Qab (sls r1.fG 0 Aa) λAb=>Qab (Qav fu Ab (λAd=>Qrm fu Ad Ac)) λAe=>bif Ae then some (false) else k1 (w64 (Aa+1)) else Qdb fu r1 fu 0
def Qe1 (fu:Nat)  (r1:Request):Nat→Int→Option (Bool)
  | 0=>λ_=>none
  | n+1=>Qm2 fu r1 (Qe1 fu r1 n)
def Qqa (fu:Nat) (r1:Request):Option (Bool) :=
  Qe1 fu r1 fu 0
def Qc6 (fu:Nat)  (Ab:List Pair) (v5:Pair) (k1:Int→Option (Int)) (Aa:Int):Option (Int) :=
  bif (decide (Aa<(Ab.length:Int))) then Qab (ix Ab Aa) λAc=>bif (decide (v5=Ac)) then some (Aa) else k1 (w64 (Aa+1)) else some ((-1))
def Qba (fu:Nat)  (Aa:List Pair) (v5:Pair):Nat→Int→Option (Int)
  | 0=>λ_=>none
  | n+1=>Qc6 fu Aa v5 (Qba fu Aa v5 n)
def Qed (fu:Nat) (Aa:List Pair) (v5:Pair):Option (Int) :=
  Qba fu Aa v5 fu 0
def Qdl (fu:Nat) (Ab:List Pair) (v5:Pair):Option (Bool) :=
  Qab (Qed fu Ab v5) λAa=>some (decide (Aa≥0))
def Qhp (fu:Nat) (Aa:List Pair) (a5:Int) (b6:Int):Option (Bool) :=
  Qab (Qdl fu Aa (⟨a5,b6⟩:Pair)) λx7=>some (x7)
def Qnb (fu:Nat) (k3:Int→Option (Bool)) (Ac:List Pair) (Af:Int) (Ab:Int) (k4:Int→Option (Bool)) (Aa:Int):Option (Bool) :=
  bif (decide (Aa<Af)) then Qab (Qhp fu Ac Ab Aa) λAd=>Qab (Qhp fu Ac Aa Ab) λAe=>bif (!(Ad==Ae)) then some (false) else k4 (w64 (Aa+1)) else k3 (w64 (Ab+1))
def Qev (fu:Nat) (k3:Int→Option (Bool)) (Ac:List Pair) (Ab:Int) (Aa:Int):Nat→Int→Option (Bool)
  | 0=>λ_=>none
  | n+1=>Qnb fu k3 Ac Ab Aa (Qev fu k3 Ac Ab Aa n)
def Qmf (fu:Nat)  (Ab:List Pair) (Ac:Int) (k3:Int→Option (Bool)) (Aa:Int):Option (Bool) :=
  bif (decide (Aa<Ac)) then Qab (Qhp fu Ab Aa Aa) λAd=>bif (!Ad) then some (false) else Qev fu k3 Ab Ac Aa fu 0 else some (true)
def Qfg (fu:Nat)  (Ab:List Pair) (Aa:Int):Nat→Int→Option (Bool)
  | 0=>λ_=>none
  | n+1=>Qmf fu Ab Aa (Qfg fu Ab Aa n)
def Qqe (fu:Nat) (Ab:List Pair) (Aa:Int):Option (Bool) :=
  Qab (Qau fu Aa 1 4) λx6=>bif (!x6) then some (false) else Qfg fu Ab Aa fu 0
def Qcl (fu:Nat) (x1:List Int):Option (List Int):=Q28 x1
def Qtu (fu:Nat) (x1:Item) (t2:Typ) (Aj:List Int) (Ag:List Int):Option (Bool) :=
  Qab (Qcl fu Aj) λAa=>Qab (Qcl fu Ag) λAb=>Qab (ix Aa 0) λAd=>Qab (ix Ab 0) λAf=>bif (decide (Ad≤Af)) then Qab (ix Aa 1) λAe=>Qab (ix Ab 1) λAc=>bif (decide (Ae≤Ac)) then Qab (ix Aa 2) λAi=>Qab (ix Ab 2) λAh=>bif (decide (Ai≤Ah)) then some (decide (x1.fQ≤t2.fQ)) else some (false) else some (false) else some (false)
def Qso (fu:Nat) (x1:Item) (t2:Typ):Option (Bool) :=
  Qtu fu x1 t2 (([x1.fW,x1.fH,x1.fD]:List Int)) (([t2.fW,t2.fH,t2.fD]:List Int))
def Qqs (fu:Nat) (x1:Item) (x2:Typ):Option (Bool) :=
  Qab (Qso fu x1 x2) λx8=>some (!x8)
def Qqc (fu:Nat) (t1:Typ) (x2:Pallet):Option (Bool) :=
  bif (decide (t1.fW>x2.fW)) then some (true) else bif (decide (t1.fD>x2.fD)) then some (true) else bif (decide (t1.fH>x2.fH)) then some (true) else some (decide ((w64 (t1.fK+t1.fQ))>x2.fQ))
def Qq2 (fu:Nat) (r1:Request):Option (Int) :=
  Qab (Qh7 fu r1) λAd=>Qab (Qov fu r1) λAb=>bif (!Ab) then some (2) else Qab (Qqa fu r1) λAe=>bif (!Ae) then some (3) else Qab (Qqe fu r1.fT r1.fU) λAf=>bif (!Af) then some (4) else Qab (Qa3 fu r1.fV (λAg=>Qqs fu Ag Ad.1)) λAc=>bif Ac then some (5) else Qab (Qav fu r1.fG (λAa=>Qqc fu Aa r1.fJ)) λAh=>bif Ah then some (6) else some (0)
def Qqq (fu:Nat) (Ab:ByteArray):Option (Int) :=
  Qab (Qio fu Ab) λx2=>bif (decide (x2.2≥0)) then some (1) else Qab (Qq2 fu x2.1) λAa=>some (Aa)
def Qfq (fu:Nat) (r1:Request):Option (Bool) :=
  Qab (Qq2 fu r1) λAa=>some (Aa==0)
def Qcx (fu:Nat) (Ab:List Int):Option ((List Int)) :=
  Qab (Qc7 8 (([]:List Int)) Ab) λAa=>some (Aa)
def Qib (fu:Nat) (x1:List Int):Option (List Int):=Jld x1
def Qjf (fu:Nat) (Ab:List Int):Option ((List Int)) :=
  Qab (Qcx fu Ab) λx5=>Qab (Qcl fu x5) λAa=>Qab (Qib fu Aa) λAc=>some (Ac)
def Qm3 (fu:Nat)  (r1:Request) (k1:List Int→Int→Option ((List Int))) (Ab:List Int) (Aa:Int):Option ((List Int)) :=
  bif (decide (Aa<(r1.fV.length:Int))) then Qab (ix r1.fV Aa) λAe=>Qab (Qc7 8 Ab (([Ae.fM]:List Int))) λAd=>k1 Ad (w64 (Aa+1)) else Qab (Qjf fu Ab) λAc=>some (Ac)
def Qgz (fu:Nat)  (r1:Request):Nat→List Int→Int→Option ((List Int))
  | 0=>λ_ _=>none
  | n+1=>Qm3 fu r1 (Qgz fu r1 n)
def Qqp (fu:Nat) (r1:Request):Option ((List Int)) :=
  Qab (Qfq fu r1) λAa=>bif (!Aa) then some (([]:List Int)) else Qgz fu r1 fu (([]:List Int)) 0
def Qr3 (fu:Nat) (Aa:List Pair) (a5:Int) (b6:Int):Option (Bool) :=
  Qab (Qhp fu Aa a5 b6) λx7=>bif x7 then Qab (Qhp fu Aa b6 a5) λAb=>some (Ab) else some (false)
def Qkd (fu:Nat) (x1:Int) (x2:List Pair) (x8:Int):Option (Bool) :=
  Qab (Qr3 fu x2 x8 x1) λAa=>some (!Aa)
def Qey (fu:Nat)  (Ab:List Int) (f5:Int→Option Bool) (k1:Int→Option (Int)) (Aa:Int):Option (Int) :=
  bif (decide (Aa<(Ab.length:Int))) then Qab (ix Ab Aa) λAc=>Qab (f5 Ac) λAd=>bif Ad then some (Aa) else k1 (w64 (Aa+1)) else some ((-1))
def Qb3 (fu:Nat)  (Aa:List Int) (f5:Int→Option Bool):Nat→Int→Option (Int)
  | 0=>λ_=>none
  | n+1=>Qey fu Aa f5 (Qb3 fu Aa f5 n)
def Qdk (fu:Nat) (Aa:List Int) (f5:Int→Option Bool):Option (Int) :=
  Qb3 fu Aa f5 fu 0
def Qdz (fu:Nat) (Aa:List Int) (f5:Int→Option Bool):Option (Bool) :=
  Qab (Qdk fu Aa f5) λAb=>some (decide (Ab≥0))
def Qn7 (fu:Nat) (l1:List Int) (x5:List Pair) (Aa:Int):Option (Bool) :=
  Qab (Qdz fu l1 (λAc=>Qkd fu Ac x5 Aa)) λAb=>some (!Ab)
def Qeq (fu:Nat)  (Ab:List (List Int)) (f5:(List Int)→Option Bool) (k1:Int→Option (Int)) (Aa:Int):Option (Int) :=
  bif (decide (Aa<(Ab.length:Int))) then Qab (ix Ab Aa) λAc=>Qab (f5 Ac) λAd=>bif Ad then some (Aa) else k1 (w64 (Aa+1)) else some ((-1))
def Qbv (fu:Nat)  (Aa:List (List Int)) (f5:(List Int)→Option Bool):Nat→Int→Option (Int)
  | 0=>λ_=>none
  | n+1=>Qeq fu Aa f5 (Qbv fu Aa f5 n)
def Qc4 (fu:Nat) (Aa:List (List Int)) (f5:(List Int)→Option Bool):Option (Int) :=
  Qbv fu Aa f5 fu 0
def Qiq (fu:Nat) (k3:List (List Int)→Int→Option ((List (List Int)))) (Aa:Int) (Ab:List (List Int)):Option ((List (List Int))) :=
  k3 Ab (w64 (Aa+1))
def Qnv (fu:Nat)  (Ak:List Pair) (Ae:(List Int)) (k3:List (List Int)→Int→Option ((List (List Int)))) (Aa:List (List Int)) (Ab:Int):Option ((List (List Int))) :=
  bif (decide (Ab<(Ae.length:Int))) then Qab (ix Ae Ab) λAd=>Qab (Qau fu Ad 0 3) λAg=>bif (!Ag) then Qiq fu k3 Ab Aa else Qab (Qc4 fu Aa (λAj=>Qn7 fu Aj Ak Ad)) λAc=>bif (decide (Ac<0)) then Qab (Qc7 24 Aa [([Ad]:List Int)]) λAh=>Qiq fu k3 Ab Ah else Qab (ix Aa Ac) λAi=>Qab (Qc7 8 Ai (([Ad]:List Int))) λAf=>Qab (ix Aa Ac) λAl=>Qiq fu k3 Ab (Qi1 Aa Ac Af) else some (Aa)
def Qeo (fu:Nat)  (Ab:List Pair) (Aa:(List Int)):Nat→List (List Int)→Int→Option ((List (List Int)))
  | 0=>λ_ _=>none
  | n+1=>Qnv fu Ab Aa (Qeo fu Ab Aa n)
def Qsb (fu:Nat) (Ac:List Pair) (Aa:List Int):Option ((List (List Int))) :=
  Qab (Qjf fu Aa) λAb=>Qeo fu Ac Ab fu (([]:List (List Int))) 0
def Qic (fu:Nat) (r1:Request):Option ((List (List Int))) :=
  Qab (Qfq fu r1) λAc=>bif (!Ac) then some (([]:List (List Int))) else Qab (Qqp fu r1) λAb=>Qab (Qsb fu r1.fT Ab) λAa=>some (Aa)
def Qxh (fu:Nat) (x1:Int) (y2:Int):Option (Int×Int) :=
  some (IntKind.wrap .u64 ((IntKind.wrap .u64 ((IntKind.wrap .u64 ((Int.fdiv x1 (2 ^ (min 32 (IntKind.bits .u64))))*(Int.fdiv y2 (2 ^ (min 32 (IntKind.bits .u64))))))+(Int.fdiv (IntKind.wrap .u64 ((IntKind.wrap .u64 ((Int.fdiv x1 (2 ^ (min 32 (IntKind.bits .u64))))*(IntKind.wrap .u64 (((BitVec.ofInt (IntKind.bits .u64) y2 &&& BitVec.ofInt (IntKind.bits .u64) 4294967295).toNat:Nat):Int))))+(Int.fdiv (IntKind.wrap .u64 ((IntKind.wrap .u64 (((BitVec.ofInt (IntKind.bits .u64) x1 &&& BitVec.ofInt (IntKind.bits .u64) 4294967295).toNat:Nat):Int))*(IntKind.wrap .u64 (((BitVec.ofInt (IntKind.bits .u64) y2 &&& BitVec.ofInt (IntKind.bits .u64) 4294967295).toNat:Nat):Int)))) (2 ^ (min 32 (IntKind.bits .u64)))))) (2 ^ (min 32 (IntKind.bits .u64))))))+(Int.fdiv (IntKind.wrap .u64 ((IntKind.wrap .u64 (((BitVec.ofInt (IntKind.bits .u64) (IntKind.wrap .u64 ((IntKind.wrap .u64 ((Int.fdiv x1 (2 ^ (min 32 (IntKind.bits .u64))))*(IntKind.wrap .u64 (((BitVec.ofInt (IntKind.bits .u64) y2 &&& BitVec.ofInt (IntKind.bits .u64) 4294967295).toNat:Nat):Int))))+(Int.fdiv (IntKind.wrap .u64 ((IntKind.wrap .u64 (((BitVec.ofInt (IntKind.bits .u64) x1 &&& BitVec.ofInt (IntKind.bits .u64) 4294967295).toNat:Nat):Int))*(IntKind.wrap .u64 (((BitVec.ofInt (IntKind.bits .u64) y2 &&& BitVec.ofInt (IntKind.bits .u64) 4294967295).toNat:Nat):Int)))) (2 ^ (min 32 (IntKind.bits .u64)))))) &&& BitVec.ofInt (IntKind.bits .u64) 4294967295).toNat:Nat):Int))+(IntKind.wrap .u64 ((IntKind.wrap .u64 (((BitVec.ofInt (IntKind.bits .u64) x1 &&& BitVec.ofInt (IntKind.bits .u64) 4294967295).toNat:Nat):Int))*(Int.fdiv y2 (2 ^ (min 32 (IntKind.bits .u64)))))))) (2 ^ (min 32 (IntKind.bits .u64))))),IntKind.wrap .u64 (x1*y2))
def Qw2 (fu:Nat) (x1:Int) (y2:Int):Option (Int×Int) :=
  Qab (Qxh fu x1 y2) λx3=>some (x3.1,x3.2)
def Qr9 (fu:Nat)   (k3:List Int→Int→Option ((List Int))) (Aa:List Int) (Ab:Int):Option ((List Int)) :=
  bif (decide (Ab<(Aa.length:Int))) then Qab (sls Aa Ab (Aa.length:Int)) λAd=>Qab (sls Aa 0 Ab) λAc=>k3 (cpd Aa Ab Ac) (w64 (Ab+(cpn Aa Ab Ac))) else some (Aa)
def Qhg (fu:Nat)   : Nat→List Int→Int→Option ((List Int))
  | 0=>λ_ _=>none
  | n+1=>Qr9 fu  (Qhg fu  n)
def Qbp (fu:Nat) (x1:List Int) (x8:Int×Int)  : Option ((List Int)) :=
  Qab (mk 8 (0:Int) (w64 x8.2)) λAa=>Qhg fu fu (cpd Aa 0 x1) (cpn Aa 0 x1)
def Qhe (fu:Nat) (x1:List Int) (Aa:Int)  : Option ((List Int)) :=
  Qab (Qw2 fu (IntKind.wrap .u64 (x1.length:Int)) (IntKind.wrap .u64 Aa)) λx8=>bif (decide (x8.1>0)) then none else bif (decide (x8.2>9223372036854775807)) then none else Qbp fu x1 x8
def Qgi (fu:Nat) (x1:List Int) (Aa:Int):Option ((List Int)) :=
  bif (decide (Aa<0)) then none else Qhe fu x1 Aa
def Qp5 (fu:Nat)  (r1:Request) (k1:List Int→Int→Option ((List Int))) (Ab:List Int) (Aa:Int):Option ((List Int)) :=
  bif (decide (Aa<(r1.fV.length:Int))) then Qab (ix r1.fV Aa) λAc=>Qab (Qgi fu (([Aa]:List Int)) Ac.fF) λAd=>Qab (Qc7 8 Ab Ad) λAe=>k1 Ae (w64 (Aa+1)) else some (Ab)
def Qh1 (fu:Nat)  (r1:Request):Nat→List Int→Int→Option ((List Int))
  | 0=>λ_ _=>none
  | n+1=>Qp5 fu r1 (Qh1 fu r1 n)
def Qno (fu:Nat) (r1:Request):Option ((List Int)) :=
  Qab (Qfq fu r1) λAa=>bif (!Aa) then some (([]:List Int)) else Qh1 fu r1 fu (([]:List Int)) 0
def Qhb (fu:Nat)  (Ab:List Int) (v5:Int) (k1:Int→Option (Int)) (Aa:Int):Option (Int) :=
  bif (decide (Aa<(Ab.length:Int))) then Qab (ix Ab Aa) λAc=>bif (v5==Ac) then some (Aa) else k1 (w64 (Aa+1)) else some ((-1))
def Qct (fu:Nat)  (Aa:List Int) (v5:Int):Nat→Int→Option (Int)
  | 0=>λ_=>none
  | n+1=>Qhb fu Aa v5 (Qct fu Aa v5 n)
def Qiy (fu:Nat) (Aa:List Int) (v5:Int):Option (Int) :=
  Qct fu Aa v5 fu 0
def Qfk (fu:Nat) (Aa:List Int) (v5:Int):Option (Bool) :=
  Qab (Qiy fu Aa v5) λx6=>some (decide (x6≥0))
def Qj9 (fu:Nat) (k3:List Int→Int→Option ((List Int))) (Ab:Int) (Aa:List Int):Option ((List Int)) :=
  k3 Aa (w64 (Ab+1))
def Ql8 (fu:Nat)  (r1:Request) (Ad:Int) (Ag:(List (List Int))) (Ac:(List Int)) (k3:List Int→Int→Option ((List Int))) (Ab:List Int) (Aa:Int):Option ((List Int)) :=
  bif (decide (Aa<(Ac.length:Int))) then Qab (ix Ac Aa) λAe=>Qab (ix Ag Ad) λAi=>Qab (ix r1.fV Ae) λAj=>Qab (Qfk fu Ai Aj.fM) λAf=>bif Af then Qab (Qc7 8 Ab (([Aa]:List Int))) λAh=>Qj9 fu k3 Aa Ah else Qj9 fu k3 Aa Ab else some (Ab)
def Qe8 (fu:Nat)  (r1:Request) (Ab:Int) (Ac:(List (List Int))) (Aa:(List Int)):Nat→List Int→Int→Option ((List Int))
  | 0=>λ_ _=>none
  | n+1=>Ql8 fu r1 Ab Ac Aa (Qe8 fu r1 Ab Ac Aa n)
def Qqi (fu:Nat) (r1:Request) (Aa:Int):Option ((List Int)) :=
  Qab (Qic fu r1) λAb=>Qab (Qau fu Aa 0 (w64 ((Ab.length:Int) - 1))) λAd=>bif (!Ad) then some (([]:List Int)) else Qab (Qno fu r1) λAc=>Qe8 fu r1 Aa Ab Ac fu (([]:List Int)) 0
def Qq7 (fu:Nat) (u1:Int) (x2:Int):Option (Bool) :=
  Qab (Qau fu u1 0 (w64 (x2 - 1))) λx5=>some (!x5)
def Qdt (fu:Nat) (k3:List Int→Int→Int→Option ((List Int))) (Ab:Int) (Aa:List Int) (Ac:Int):Option ((List Int)) :=
  k3 Aa Ac (w64 (Ab+1))
def Qer (fu:Nat)  (f5:Int→Option Bool) (k3:List Int→Int→Int→Option ((List Int))) (Aa:List Int) (Ab:Int) (Ac:Int):Option ((List Int)) :=
  bif (decide (Ac<(Aa.length:Int))) then Qab (ix Aa Ac) λAd=>Qab (f5 Ad) λAe=>bif (!Ae) then Qab (ix Aa Ab) λAh=>Qdt fu k3 Ac (Qi1 Aa Ab Ad) (w64 (Ab+1)) else Qdt fu k3 Ac Aa Ab else Qab (sls Aa Ab (Aa.length:Int)) λAg=>Qab (sls (Q48 Aa Ab) 0 Ab) λAf=>some (Af)
def Qbk (fu:Nat)  (f5:Int→Option Bool):Nat→List Int→Int→Int→Option ((List Int))
  | 0=>λ_ _ _=>none
  | n+1=>Qer fu f5 (Qbk fu f5 n)
def Qej (fu:Nat) (Aa:List Int) (f5:Int→Option Bool):Option ((List Int)) :=
  Qab (Qdk fu Aa f5) λAb=>bif (Ab==((-1))) then some (Aa) else Qbk fu f5 fu Aa Ab (w64 (Ab+1))
def Qiv (fu:Nat) (r1:Request) (Ae:List Int):Option ((List Int)) :=
  Qab (Qno fu r1) λAa=>Qab (Qcx fu Ae) λAb=>Qab (Qej fu Ab (λAd=>Qq7 fu Ad (Aa.length:Int))) λAc=>some (Ac)
def Qkj (fu:Nat) (k3:List Item→Int→Option ((List Item))) (Ab:Int) (Aa:List Item):Option ((List Item)) :=
  k3 Aa (w64 (Ab+1))
def Qng (fu:Nat)  (r1:Request) (Ae:List Int) (Ac:(List Int)) (k3:List Item→Int→Option ((List Item))) (Ab:List Item) (Aa:Int):Option ((List Item)) :=
  bif (decide (Aa<(Ae.length:Int))) then Qab (ix Ae Aa) λAd=>Qab (Qau fu Ad 0 (w64 ((Ac.length:Int) - 1))) λAg=>bif Ag then Qab (ix Ac Ad) λAf=>Qab (ix r1.fV Af) λAi=>Qab (Qc7 56 Ab (([Ai]:List Item))) λAh=>Qkj fu k3 Aa Ah else Qkj fu k3 Aa Ab else some (Ab)
def Qfe (fu:Nat)  (r1:Request) (Ab:List Int) (Aa:(List Int)):Nat→List Item→Int→Option ((List Item))
  | 0=>λ_ _=>none
  | n+1=>Qng fu r1 Ab Aa (Qfe fu r1 Ab Aa n)
def Qiu (fu:Nat) (r1:Request) (Ab:List Int):Option ((List Item)) :=
  Qab (Qno fu r1) λAa=>Qfe fu r1 Ab Aa fu (([]:List Item)) 0
def Qrn (fu:Nat) (Aa:Int) (h2:Int) (d3:Int)  : Option (Int) :=
  some (w64 ((w64 (Aa*h2))*d3))
def Qo5 (fu:Nat) (Aa:Int) (h2:Int) (d3:Int):Option (Int) :=
  Qab (Qau fu Aa 0 2000) λAb=>bif (!Ab) then some (0) else Qab (Qau fu h2 0 2000) λAc=>bif (!Ac) then some (0) else Qab (Qau fu d3 0 2000) λAd=>bif (!Ad) then some (0) else Qrn fu Aa h2 d3
def Qk2 (fu:Nat)  (Ac:(List Item)) (k1:Int→Int→Option (Int)) (Ad:Int) (Ab:Int):Option (Int) :=
  bif (decide (Ab<(Ac.length:Int))) then Qab (ix Ac Ab) λAa=>Qab (Qo5 fu Aa.fW Aa.fH Aa.fD) λAe=>k1 (w64 (Ad+Ae)) (w64 (Ab+1)) else some (Ad)
def Qfw (fu:Nat)  (Aa:(List Item)):Nat→Int→Int→Option (Int)
  | 0=>λ_ _=>none
  | n+1=>Qk2 fu Aa (Qfw fu Aa n)
def Qjl (fu:Nat) (r1:Request) (Ab:List Int):Option (Int) :=
  Qab (Qiu fu r1 Ab) λAa=>Qfw fu Aa fu 0 0
def Qnq (fu:Nat)  (Ab:(List Item)) (k1:Int→Int→Option (Int)) (Ac:Int) (Aa:Int):Option (Int) :=
  bif (decide (Aa<(Ab.length:Int))) then Qab (ix Ab Aa) λAd=>k1 (w64 (Ac+Ad.fQ)) (w64 (Aa+1)) else some (Ac)
def Qhm (fu:Nat)  (Aa:(List Item)):Nat→Int→Int→Option (Int)
  | 0=>λ_ _=>none
  | n+1=>Qnq fu Aa (Qhm fu Aa n)
def Qot (fu:Nat) (r1:Request) (Ab:List Int):Option (Int) :=
  Qab (Qiu fu r1 Ab) λAa=>Qhm fu Aa fu 0 0
def Qn8 (fu:Nat) (r1:Request) (Aa:List Int) (t9:Typ):Option (Bool) :=
  Qab (Qjl fu r1 Aa) λAb=>Qab (Qo5 fu t9.fW t9.fH t9.fD) λAd=>bif (decide (Ab≤Ad)) then Qab (Qot fu r1 Aa) λAc=>some (decide (Ac≤t9.fQ)) else some (false)
def Qsi (fu:Nat) (r1:Request) (Ad:List Int) (u9:Int):Option (Bool) :=
  Qab (Qh7 fu r1) λAa=>Qab (Qfq fu r1) λAb=>bif Ab then Qab (Qcx fu Ad) λAf=>Qab (Qc7 8 Af (([u9]:List Int))) λAc=>Qab (Qn8 fu r1 Ac Aa.1) λAe=>some (Ae) else some (false)
def Qh5 (fu:Nat) (k3:List (List Int)→Int→Option ((List (List Int)))) (Ab:Int) (Aa:List (List Int)):Option ((List (List Int))) :=
  k3 Aa (w64 (Ab+1))
def Qmq (fu:Nat)  (r1:Request) (Ad:(List Int)) (k3:List (List Int)→Int→Option ((List (List Int)))) (Aa:List (List Int)) (Ab:Int):Option ((List (List Int))) :=
  bif (decide (Ab<(Ad.length:Int))) then Qab (ix Ad Ab) λAc=>bif (decide ((w64 ((Aa.length:Int) - 1))≥0)) then Qab (ix Aa (w64 ((Aa.length:Int) - 1))) λAe=>Qab (Qsi fu r1 Ae Ac) λAh=>bif Ah then Qab (ix Aa (w64 ((Aa.length:Int) - 1))) λAk=>Qab (Qc7 8 Ae (([Ac]:List Int))) λAg=>Qab (ix Aa (w64 ((Aa.length:Int) - 1))) λAj=>Qh5 fu k3 Ab (Qi1 Aa (w64 ((Aa.length:Int) - 1)) Ag) else Qab (Qc7 24 Aa [([Ac]:List Int)]) λAf=>Qh5 fu k3 Ab Af else Qab (Qc7 24 Aa [([Ac]:List Int)]) λAi=>Qh5 fu k3 Ab Ai else some (Aa)
def Qea (fu:Nat)  (r1:Request) (Aa:(List Int)):Nat→List (List Int)→Int→Option ((List (List Int)))
  | 0=>λ_ _=>none
  | n+1=>Qmq fu r1 Aa (Qea fu r1 Aa n)
def Qqg (fu:Nat) (r1:Request) (Ab:List Int):Option ((List (List Int))) :=
  Qab (Qiv fu r1 Ab) λAa=>Qea fu r1 Aa fu (([]:List (List Int))) 0
def Qof (fu:Nat)  (n1:Int) (k1:List Int→Int→Option ((List Int))) (Ab:List Int) (Aa:Int):Option ((List Int)) :=
  bif (decide (Aa<n1)) then Qab (Qc7 8 Ab (([Aa]:List Int))) λAc=>k1 Ac (w64 (Aa+1)) else some (Ab)
def Qhl (fu:Nat)  (n1:Int):Nat→List Int→Int→Option ((List Int))
  | 0=>λ_ _=>none
  | n+1=>Qof fu n1 (Qhl fu n1 n)
def Qsg (fu:Nat) (n1:Int):Option ((List Int)) :=
  Qhl fu n1 fu (([]:List Int)) 0
def Qqw (fu:Nat) (a1:Int) (b2:Int):Option (Int) :=
  bif (decide (a1<b2)) then some ((-1)) else bif (decide (a1>b2)) then some (1) else some (0)
def Qe4 (fu:Nat) (i1:Int) (j2:Int) (x3:List Int):Option (Int) :=
  Qab (ix x3 j2) λAa=>Qab (ix x3 i1) λAb=>Qab (Qqw fu Aa Ab) λAc=>some (Ac)
def Qdv (fu:Nat) (Ad:List Int→Int→Option ((List Int))) (Ab:List Int) (Aa:Int)  : Option ((List Int)) :=
  Qab (ix Ab (w64 (Aa - 1))) λAc=>Qab (ix Ab Aa) λAe=>Qab (ix Ab Aa) λAf=>Qab (ix (Qi1 Ab Aa Ac) (w64 (Aa - 1))) λAg=>Ad (Qi1 (Qi1 Ab Aa Ac) (w64 (Aa - 1)) Ae) (w64 (Aa - 1))
def Qdj (fu:Nat) (k9:List Int→Int→Option ((List Int))) (a5:Int) (f7:Int→Int→Option Int) (Ac:Int) (Ae:List Int→Int→Option ((List Int))) (Aa:List Int) (Ab:Int):Option ((List Int)) :=
  bif (decide (Ab>a5)) then Qab (ix Aa Ab) λAd=>Qab (ix Aa (w64 (Ab - 1))) λAg=>Qab (f7 Ad Ag) λAf=>bif (decide (Af<0)) then Qdv fu Ae Aa Ab else k9 Aa (w64 (Ac+1)) else k9 Aa (w64 (Ac+1))
def Qa6 (fu:Nat) (k9:List Int→Int→Option ((List Int))) (a5:Int) (f7:Int→Int→Option Int) (Aa:Int):Nat→List Int→Int→Option ((List Int))
  | 0=>λ_ _=>none
  | n+1=>Qdj fu k9 a5 f7 Aa (Qa6 fu k9 a5 f7 Aa n)
def Qca (fu:Nat)  (a5:Int) (b6:Int) (f7:Int→Int→Option Int) (k9:List Int→Int→Option ((List Int))) (Ab:List Int) (Aa:Int):Option ((List Int)) :=
  bif (decide (Aa<b6)) then Qa6 fu k9 a5 f7 Aa fu Ab Aa else some (Ab)
def Qak (fu:Nat)  (a5:Int) (b6:Int) (f7:Int→Int→Option Int):Nat→List Int→Int→Option ((List Int))
  | 0=>λ_ _=>none
  | n+1=>Qca fu a5 b6 f7 (Qak fu a5 b6 f7 n)
def Qb6 (fu:Nat) (Aa:List Int) (a5:Int) (b6:Int) (f7:Int→Int→Option Int):Option ((List Int)) :=
  Qak fu a5 b6 f7 fu Aa (w64 (a5+1))
def Qgj (fu:Nat) (x0:List Int) (x1:Int) (x2:Int) (x3:Int) (x4:Int→Int→Option Int):Option ((List Int)):=none
def Qga (fu:Nat) (k6:List Int→Int→Option ((List Int))) (Ab:Int) (Aa:List Int):Option ((List Int)) :=
  k6 Aa (w64 (Ab*2))
def Qpx (fu:Nat) (k6:List Int→Int→Option ((List Int))) (n5:Int) (f6:Int→Int→Option Int) (Aa:Int) (k7:List Int→Int→Int→Option ((List Int))) (Ad:List Int) (Ab:Int) (Ac:Int):Option ((List Int)) :=
  bif (decide (Ac≤n5)) then Qab (Qgj fu Ad Ab (w64 (Ab+Aa)) Ac f6) λAe=>k7 Ae Ac (w64 (Ac+(w64 (2*Aa)))) else bif (decide ((w64 (Ab+Aa))<n5)) then Qab (Qgj fu Ad Ab (w64 (Ab+Aa)) n5 f6) λAf=>Qga fu k6 Aa Af else Qga fu k6 Aa Ad
def Qf9 (fu:Nat) (k6:List Int→Int→Option ((List Int))) (n5:Int) (f6:Int→Int→Option Int) (Aa:Int):Nat→List Int→Int→Int→Option ((List Int))
  | 0=>λ_ _ _=>none
  | n+1=>Qpx fu k6 n5 f6 Aa (Qf9 fu k6 n5 f6 Aa n)
def Qh3 (fu:Nat)  (n5:Int) (f6:Int→Int→Option Int) (k6:List Int→Int→Option ((List Int))) (Ab:List Int) (Aa:Int):Option ((List Int)) :=
  bif (decide (Aa<n5)) then Qf9 fu k6 n5 f6 Aa fu Ab 0 (w64 (2*Aa)) else some (Ab)
def Qby (fu:Nat)  (n5:Int) (f6:Int→Int→Option Int):Nat→List Int→Int→Option ((List Int))
  | 0=>λ_ _=>none
  | n+1=>Qh3 fu n5 f6 (Qby fu n5 f6 n)
def Qhy (fu:Nat)  (n5:Int) (f6:Int→Int→Option Int) (k1:List Int→Int→Int→Option ((List Int))) (Ab:List Int) (Ac:Int) (Aa:Int):Option ((List Int)) :=
  bif (decide (Aa≤n5)) then Qab (Qb6 fu Ab Ac Aa f6) λAe=>k1 Ae Aa (w64 (Aa+20)) else Qab (Qb6 fu Ab Ac n5 f6) λAd=>Qby fu n5 f6 fu Ad 20
def Qdw (fu:Nat)  (n5:Int) (f6:Int→Int→Option Int):Nat→List Int→Int→Int→Option ((List Int))
  | 0=>λ_ _ _=>none
  | n+1=>Qhy fu n5 f6 (Qdw fu n5 f6 n)
def Qhd (fu:Nat) (Aa:List Int) (n5:Int) (f6:Int→Int→Option Int):Option ((List Int)) :=
  Qdw fu n5 f6 fu Aa 0 20
def Qe0 (fu:Nat) (x1:List Int) (f5:Int→Int→Option Int):Option ((List Int)) :=
  Qab (Qhd fu x1 (x1.length:Int) f5) λAa=>some (Aa)
def Qg9 (fu:Nat) (Aa:List Int):Option ((List Int)) :=
  Qab (Qsg fu (Aa.length:Int)) λx8=>Qab (Qe0 fu x8 (λAb Ac=>Qe4 fu Ab Ac Aa)) λAd=>some (Ad)
def Qkc (fu:Nat) (l1:List Int) (x5:Request) (Ab:Int):Option (Bool) :=
  Qab (Qsi fu x5 l1 Ab) λAa=>some (Aa)
def Qi2 (fu:Nat) (k4:List (List Int)→Int→Option ((List (List Int)))) (Aa:Int) (Ab:List (List Int)):Option ((List (List Int))) :=
  k4 Ab (w64 (Aa+1))
def Qkx (fu:Nat)  (r1:Request) (Af:(List Int)) (Ae:(List Int)) (k4:List (List Int)→Int→Option ((List (List Int)))) (Aa:List (List Int)) (Ab:Int):Option ((List (List Int))) :=
  bif (decide (Ab<(Ae.length:Int))) then Qab (ix Ae Ab) λAj=>Qab (ix Af Aj) λAd=>Qab (Qc4 fu Aa (λAh=>Qkc fu Ah r1 Ad)) λAc=>bif (decide (Ac<0)) then Qab (Qc7 24 Aa [([Ad]:List Int)]) λAg=>Qi2 fu k4 Ab Ag else Qab (ix Aa Ac) λAk=>Qab (Qc7 8 Ak (([Ad]:List Int))) λAi=>Qab (ix Aa Ac) λAl=>Qi2 fu k4 Ab (Qi1 Aa Ac Ai) else some (Aa)
def Qck (fu:Nat)  (r1:Request) (Aa:(List Int)) (Ab:(List Int)):Nat→List (List Int)→Int→Option ((List (List Int)))
  | 0=>λ_ _=>none
  | n+1=>Qkx fu r1 Aa Ab (Qck fu r1 Aa Ab n)
def Qk1 (fu:Nat)  (r1:Request) (Aa:(List Int)) (k1:List Int→Int→Option ((List (List Int)))) (Ac:List Int) (Ab:Int):Option ((List (List Int))) :=
  bif (decide (Ab<(Aa.length:Int))) then Qab (ix Aa Ab) λAd=>Qab (Qjl fu r1 (([Ad]:List Int))) λAe=>Qab (Qc7 8 Ac (([Ae]:List Int))) λAg=>k1 Ag (w64 (Ab+1)) else Qab (Qg9 fu Ac) λAf=>Qck fu r1 Aa Af fu (([]:List (List Int))) 0
def Qfy (fu:Nat)  (r1:Request) (Aa:(List Int)):Nat→List Int→Int→Option ((List (List Int)))
  | 0=>λ_ _=>none
  | n+1=>Qk1 fu r1 Aa (Qfy fu r1 Aa n)
def Qph (fu:Nat) (r1:Request) (Ab:List Int):Option ((List (List Int))) :=
  Qab (Qiv fu r1 Ab) λAa=>Qfy fu r1 Aa fu (([]:List Int)) 0
def Qqd (fu:Nat) (r1:Request) (Aa:List Int):Option ((List (List Int))) :=
  bif (r1.f9==1) then Qab (Qqg fu r1 Aa) λAb=>some (Ab) else Qab (Qph fu r1 Aa) λAc=>some (Ac)
def Qtr (fu:Nat) (x1:Item) (x2:Typ):Option (Bool) :=
  Qab (Qso fu x1 x2) λx8=>some (!x8)
def Qsy (fu:Nat) (r1:Request) (Aa:List Int) (t9:Typ)  : Option (Bool) :=
  Qab (Qiu fu r1 Aa) λAe=>Qab (Qa3 fu Ae (λAb=>Qtr fu Ab t9)) λAd=>bif (!Ad) then Qab (Qn8 fu r1 Aa t9) λAc=>some (Ac) else some (false)
def Qta (fu:Nat) (r1:Request) (Aa:List Int) (t9:Typ):Option (Bool) :=
  Qab (Qfq fu r1) λAb=>bif (!Ab) then some (false) else Qab (Qiv fu r1 Aa) λAc=>bif ((Ac.length:Int) != (Aa.length:Int)) then some (false) else Qsy fu r1 Aa t9
def Qdp (fu:Nat) (k3:Typ→Bool→Int→Option (Typ×Bool)) (Aa:Int) (Ac:Typ) (Ab:Bool):Option (Typ×Bool) :=
  k3 Ac Ab (w64 (Aa+1))
def Qkv (fu:Nat)  (r1:Request) (Af:List Int) (k3:Typ→Bool→Int→Option (Typ×Bool)) (Ac:Typ) (Ad:Bool) (Aa:Int):Option (Typ×Bool) :=
  bif (decide (Aa<(r1.fG.length:Int))) then Qab (ix r1.fG Aa) λAb=>Qab (Qta fu r1 Af Ab) λAe=>bif (!Ae) then Qdp fu k3 Aa Ac Ad else bif (!Ad) then Qdp fu k3 Aa Ab true else bif (decide (Ab.fL<Ac.fL)) then Qdp fu k3 Aa Ab true else bif (Ab.fL==Ac.fL) then bif (decide (Ab.f8<Ac.f8)) then Qdp fu k3 Aa Ab true else Qdp fu k3 Aa Ac Ad else Qdp fu k3 Aa Ac Ad else some (Ac,Ad)
def Qeh (fu:Nat)  (r1:Request) (Aa:List Int):Nat→Typ→Bool→Int→Option (Typ×Bool)
  | 0=>λ_ _ _=>none
  | n+1=>Qkv fu r1 Aa (Qeh fu r1 Aa n)
def Qou (fu:Nat) (r1:Request) (Aa:List Int):Option (Typ×Bool) :=
  Qeh fu r1 Aa fu (⟨0,0,0,0,0,0,0⟩:Typ) false 0
def Qjn (fu:Nat) (k3:List Carton→Int→Option ((List Carton))) (r1:Request) (Ae:Int) (Ad:(List (List Int))) (k4:List Carton→Int→Option ((List Carton))) (Ac:List Carton) (Aa:Int):Option ((List Carton)) :=
  bif (decide (Aa<(Ad.length:Int))) then Qab (ix Ad Aa) λAb=>Qab (Qou fu r1 Ab) λAf=>Qab (Qcl fu Ab) λAg=>Qab (Qc7 40 Ac [(⟨Af.1.f8,Ae,Ag⟩:Carton)]) λAh=>k4 Ah (w64 (Aa+1)) else k3 Ac (w64 (Ae+1))
def Qew (fu:Nat) (k3:List Carton→Int→Option ((List Carton))) (r1:Request) (Ab:Int) (Aa:(List (List Int))):Nat→List Carton→Int→Option ((List Carton))
  | 0=>λ_ _=>none
  | n+1=>Qjn fu k3 r1 Ab Aa (Qew fu k3 r1 Ab Aa n)
def Qjp (fu:Nat)  (r1:Request) (Ad:(List (List Int))) (k3:List Carton→Int→Option ((List Carton))) (Ab:List Carton) (Aa:Int):Option ((List Carton)) :=
  bif (decide (Aa<(Ad.length:Int))) then Qab (Qqi fu r1 Aa) λAc=>Qab (Qqd fu r1 Ac) λAe=>Qew fu k3 r1 Aa Ae fu Ab 0 else some (Ab)
def Qcp (fu:Nat)  (r1:Request) (Aa:(List (List Int))):Nat→List Carton→Int→Option ((List Carton))
  | 0=>λ_ _=>none
  | n+1=>Qjp fu r1 Aa (Qcp fu r1 Aa n)
def Qlo (fu:Nat) (r1:Request):Option ((List Carton)) :=
  Qab (Qic fu r1) λAa=>Qcp fu r1 Aa fu (([]:List Carton)) 0
def Qs3 (fu:Nat) (r1:Request) (x5:Carton) (Aa:Typ×Bool)  : Option (Int) :=
  Qab (Qot fu r1 x5.fl) λAb=>some (w64 (Aa.1.fK+Ab))
def Qth (fu:Nat) (r1:Request) (x5:Carton):Option (Int) :=
  Qab (Qh4 fu r1 x5.qQ) λAa=>bif (!Aa.2) then some (0) else Qab (Qfq fu r1) λAb=>bif (!Ab) then some (0) else Qs3 fu r1 x5 Aa
def Qsm (fu:Nat) (r1:Request) (x5:Carton) (Aa:Typ×Bool)  : Option (Box) :=
  Qab (Qth fu r1 x5) λAb=>some (⟨Aa.1.fW,Aa.1.fD,Aa.1.fH,Ab⟩:Box)
def Qtj (fu:Nat) (r1:Request) (x5:Carton):Option (Box) :=
  Qab (Qh4 fu r1 x5.qQ) λAa=>bif (!Aa.2) then some (⟨0,0,0,0⟩:Box) else Qab (Qfq fu r1) λAb=>bif (!Ab) then some (⟨0,0,0,0⟩:Box) else Qsm fu r1 x5 Aa
def Qlu (fu:Nat) (b1:Box) (x2:Pallet):Option (Bool) :=
  Qab (Qau fu b1.fW 1 x2.fW) λx8=>bif (!x8) then some (true) else Qab (Qau fu b1.fD 1 x2.fD) λAa=>bif (!Aa) then some (true) else Qab (Qau fu b1.fH 1 x2.fH) λAc=>bif (!Ac) then some (true) else Qab (Qau fu b1.fQ 1 x2.fQ) λAb=>some (!Ab)
def Qcw (fu:Nat)  (Ab:List Box) (f5:Box→Option Bool) (k1:Int→Option (Int)) (Aa:Int):Option (Int) :=
  bif (decide (Aa<(Ab.length:Int))) then Qab (ix Ab Aa) λAc=>Qab (f5 Ac) λAd=>bif Ad then some (Aa) else k1 (w64 (Aa+1)) else some ((-1))
def Qay (fu:Nat)  (Aa:List Box) (f5:Box→Option Bool):Nat→Int→Option (Int)
  | 0=>λ_=>none
  | n+1=>Qcw fu Aa f5 (Qay fu Aa f5 n)
def Qdu (fu:Nat) (Aa:List Box) (f5:Box→Option Bool):Option (Int) :=
  Qay fu Aa f5 fu 0
def Qb7 (fu:Nat) (Aa:List Box) (f5:Box→Option Bool):Option (Bool) :=
  Qab (Qdu fu Aa f5) λAb=>some (decide (Ab≥0))
def Qlb (fu:Nat) (p1:Pallet) (Ad:List Box):Option (Bool) :=
  Qab (Qek fu p1) λAa=>bif Aa then Qab (Qb7 fu Ad (λAb=>Qlu fu Ab p1)) λAc=>some (!Ac) else some (false)
def Qp2 (fu:Nat) (k8:List Shelf→Int→Option ((List Shelf))) (Ab:Int) (Aa:List Shelf):Option ((List Shelf)) :=
  k8 Aa (w64 (Ab+1))
def Qdg (fu:Nat) (k8:List Shelf→Int→Option ((List Shelf))) (Aj:Int) (Ak:Int) (Ac:Box) (Ag:List Shelf) (Af:Int):Option ((List Shelf)) :=
  Qab (ix Ag Af) λAb=>Qab (Qc7 8 Ab.f0 (([Ak]:List Int))) λAd=>Qab (some ((⟨(⟨Ad,Ab.fW,Ab.fD,Ab.fH,Ab.fQ⟩:Shelf).f0,w64 (((⟨Ad,Ab.fW,Ab.fD,Ab.fH,Ab.fQ⟩:Shelf).fW)+Ac.fW),(⟨Ad,Ab.fW,Ab.fD,Ab.fH,Ab.fQ⟩:Shelf).fD,(⟨Ad,Ab.fW,Ab.fD,Ab.fH,Ab.fQ⟩:Shelf).fH,(⟨Ad,Ab.fW,Ab.fD,Ab.fH,Ab.fQ⟩:Shelf).fQ⟩:Shelf))) λAa=>Qab (some (Qi1 (Qi1 Ag Af (⟨Ad,Ab.fW,Ab.fD,Ab.fH,Ab.fQ⟩:Shelf)) Af Aa)) λAi=>Qab (some ((⟨(⟨Aa.f0,Aa.fW,if Ac.fD>Aa.fD then Ac.fD else Aa.fD,Aa.fH,Aa.fQ⟩:Shelf).f0,(⟨Aa.f0,Aa.fW,if Ac.fD>Aa.fD then Ac.fD else Aa.fD,Aa.fH,Aa.fQ⟩:Shelf).fW,(⟨Aa.f0,Aa.fW,if Ac.fD>Aa.fD then Ac.fD else Aa.fD,Aa.fH,Aa.fQ⟩:Shelf).fD,if Ac.fH>((⟨Aa.f0,Aa.fW,if Ac.fD>Aa.fD then Ac.fD else Aa.fD,Aa.fH,Aa.fQ⟩:Shelf).fH) then Ac.fH else (⟨Aa.f0,Aa.fW,if Ac.fD>Aa.fD then Ac.fD else Aa.fD,Aa.fH,Aa.fQ⟩:Shelf).fH,(⟨Aa.f0,Aa.fW,if Ac.fD>Aa.fD then Ac.fD else Aa.fD,Aa.fH,Aa.fQ⟩:Shelf).fQ⟩:Shelf))) λAe=>Qab (some (Qi1 (Qi1 Ai Af (⟨Aa.f0,Aa.fW,if Ac.fD>Aa.fD then Ac.fD else Aa.fD,Aa.fH,Aa.fQ⟩:Shelf)) Af Ae)) λAh=>Qp2 fu k8 Aj (Qi1 Ah Af (⟨Ae.f0,Ae.fW,Ae.fD,Ae.fH,w64 (Ae.fQ+Ac.fQ)⟩:Shelf))
def Qms (fu:Nat)  (p1:Pallet) (Ai:List Box) (Af:(List Int)) (k8:List Shelf→Int→Option ((List Shelf))) (Aa:List Shelf) (Ac:Int):Option ((List Shelf)) :=
  bif (decide (Ac<(Af.length:Int))) then Qab (ix Af Ac) λAd=>Qab (ix Ai Ad) λAb=>bif (decide ((w64 ((Aa.length:Int) - 1))<0)) then Qab (Qc7 56 Aa [(⟨[],0,0,0,0⟩:Shelf)]) λAh=>Qdg fu k8 Ac Ad Ab Ah (w64 ((w64 ((Aa.length:Int) - 1))+1)) else Qab (ix Aa (w64 ((Aa.length:Int) - 1))) λAe=>bif (decide ((w64 (Ae.fW+Ab.fW))>p1.fW)) then Qab (Qc7 56 Aa [(⟨[],0,0,0,0⟩:Shelf)]) λAg=>Qdg fu k8 Ac Ad Ab Ag (w64 ((w64 ((Aa.length:Int) - 1))+1)) else Qab (ix Aa (w64 ((Aa.length:Int) - 1))) λAk=>bif (decide ((w64 (Ae.fQ+Ab.fQ))>p1.fQ)) then Qab (Qc7 56 Aa [(⟨[],0,0,0,0⟩:Shelf)]) λAj=>Qdg fu k8 Ac Ad Ab Aj (w64 ((w64 ((Aa.length:Int) - 1))+1)) else Qdg fu k8 Ac Ad Ab Aa (w64 ((Aa.length:Int) - 1)) else some (Aa)
def Qbs (fu:Nat)  (p1:Pallet) (Ab:List Box) (Aa:(List Int)):Nat→List Shelf→Int→Option ((List Shelf))
  | 0=>λ_ _=>none
  | n+1=>Qms fu p1 Ab Aa (Qbs fu p1 Ab Aa n)
def Qmg (fu:Nat)  (p1:Pallet) (Ab:List Box) (k1:List Int→Int→Option ((List Shelf))) (Ac:List Int) (Aa:Int):Option ((List Shelf)) :=
  bif (decide (Aa<(Ab.length:Int))) then Qab (ix Ab Aa) λAd=>Qab (Qc7 8 Ac (([Ad.fD]:List Int))) λAf=>k1 Af (w64 (Aa+1)) else Qab (Qg9 fu Ac) λAe=>Qbs fu p1 Ab Ae fu (([]:List Shelf)) 0
def Qgq (fu:Nat)  (p1:Pallet) (Aa:List Box):Nat→List Int→Int→Option ((List Shelf))
  | 0=>λ_ _=>none
  | n+1=>Qmg fu p1 Aa (Qgq fu p1 Aa n)
def Qqj (fu:Nat) (p1:Pallet) (Aa:List Box):Option ((List Shelf)) :=
  Qab (Qlb fu p1 Aa) λAb=>bif (!Ab) then some (([]:List Shelf)) else Qgq fu p1 Aa fu (([]:List Int)) 0
def Qol (fu:Nat) (Aa:Shelf) (x5:Pallet):Option (Bool) :=
  Qab (Qau fu Aa.fD 1 x5.fD) λAb=>bif (!Ab) then some (true) else Qab (Qau fu Aa.fH 1 x5.fH) λAd=>bif (!Ad) then some (true) else Qab (Qau fu Aa.fQ 1 x5.fQ) λAc=>some (!Ac)
def Qcd (fu:Nat)  (Ab:List Shelf) (f5:Shelf→Option Bool) (k1:Int→Option (Int)) (Aa:Int):Option (Int) :=
  bif (decide (Aa<(Ab.length:Int))) then Qab (ix Ab Aa) λAc=>Qab (f5 Ac) λAd=>bif Ad then some (Aa) else k1 (w64 (Aa+1)) else some ((-1))
def Qas (fu:Nat)  (Aa:List Shelf) (f5:Shelf→Option Bool):Nat→Int→Option (Int)
  | 0=>λ_=>none
  | n+1=>Qcd fu Aa f5 (Qas fu Aa f5 n)
def Qc3 (fu:Nat) (Aa:List Shelf) (f5:Shelf→Option Bool):Option (Int) :=
  Qas fu Aa f5 fu 0
def Qbq (fu:Nat) (Aa:List Shelf) (f5:Shelf→Option Bool):Option (Bool) :=
  Qab (Qc3 fu Aa f5) λAb=>some (decide (Ab≥0))
def Qlz (fu:Nat) (p1:Pallet) (Ad:List Shelf):Option (Bool) :=
  Qab (Qek fu p1) λAa=>bif Aa then Qab (Qbq fu Ad (λAb=>Qol fu Ab p1)) λAc=>some (!Ac) else some (false)
def Qnr (fu:Nat) (k7:List Layer→Int→Option ((List Layer))) (Ab:Int) (Aa:List Layer):Option ((List Layer)) :=
  k7 Aa (w64 (Ab+1))
def Qc1 (fu:Nat) (k7:List Layer→Int→Option ((List Layer))) (Ag:Int) (Ac:Shelf) (Af:List Layer) (Ad:Int):Option ((List Layer)) :=
  Qab (ix Af Ad) λAb=>Qab (Qc7 8 Ab.fP (([Ag]:List Int))) λAe=>Qab (some ((⟨(⟨Ae,Ab.fD,Ab.fH,Ab.fQ⟩:Layer).fP,w64 (((⟨Ae,Ab.fD,Ab.fH,Ab.fQ⟩:Layer).fD)+Ac.fD),(⟨Ae,Ab.fD,Ab.fH,Ab.fQ⟩:Layer).fH,(⟨Ae,Ab.fD,Ab.fH,Ab.fQ⟩:Layer).fQ⟩:Layer))) λAa=>Qab (some (Qi1 (Qi1 Af Ad (⟨Ae,Ab.fD,Ab.fH,Ab.fQ⟩:Layer)) Ad Aa)) λAh=>Qab (some ((⟨(⟨Aa.fP,Aa.fD,if Ac.fH>Aa.fH then Ac.fH else Aa.fH,Aa.fQ⟩:Layer).fP,(⟨Aa.fP,Aa.fD,if Ac.fH>Aa.fH then Ac.fH else Aa.fH,Aa.fQ⟩:Layer).fD,(⟨Aa.fP,Aa.fD,if Ac.fH>Aa.fH then Ac.fH else Aa.fH,Aa.fQ⟩:Layer).fH,w64 (((⟨Aa.fP,Aa.fD,if Ac.fH>Aa.fH then Ac.fH else Aa.fH,Aa.fQ⟩:Layer).fQ)+Ac.fQ)⟩:Layer))) λAi=>Qab (some (Qi1 (Qi1 Ah Ad (⟨Aa.fP,Aa.fD,if Ac.fH>Aa.fH then Ac.fH else Aa.fH,Aa.fQ⟩:Layer)) Ad Ai)) λAj=>Qnr fu k7 Ag Aj
def Qk4 (fu:Nat)  (p1:Pallet) (Ae:List Shelf) (k7:List Layer→Int→Option ((List Layer))) (Aa:List Layer) (Ac:Int):Option ((List Layer)) :=
  bif (decide (Ac<(Ae.length:Int))) then Qab (ix Ae Ac) λAb=>bif (decide ((w64 ((Aa.length:Int) - 1))<0)) then Qab (Qc7 48 Aa [(⟨[],0,0,0⟩:Layer)]) λAg=>Qc1 fu k7 Ac Ab Ag (w64 ((w64 ((Aa.length:Int) - 1))+1)) else Qab (ix Aa (w64 ((Aa.length:Int) - 1))) λAd=>bif (decide ((w64 (Ad.fD+Ab.fD))>p1.fD)) then Qab (Qc7 48 Aa [(⟨[],0,0,0⟩:Layer)]) λAh=>Qc1 fu k7 Ac Ab Ah (w64 ((w64 ((Aa.length:Int) - 1))+1)) else Qab (ix Aa (w64 ((Aa.length:Int) - 1))) λAi=>bif (decide ((w64 (Ad.fQ+Ab.fQ))>p1.fQ)) then Qab (Qc7 48 Aa [(⟨[],0,0,0⟩:Layer)]) λAf=>Qc1 fu k7 Ac Ab Af (w64 ((w64 ((Aa.length:Int) - 1))+1)) else Qc1 fu k7 Ac Ab Aa (w64 ((Aa.length:Int) - 1)) else some (Aa)
def Qbt (fu:Nat)  (p1:Pallet) (Aa:List Shelf):Nat→List Layer→Int→Option ((List Layer))
  | 0=>λ_ _=>none
  | n+1=>Qk4 fu p1 Aa (Qbt fu p1 Aa n)
def Qpg (fu:Nat) (p1:Pallet) (Aa:List Shelf):Option ((List Layer)) :=
  Qab (Qlz fu p1 Aa) λAb=>bif (!Ab) then some (([]:List Layer)) else Qbt fu p1 Aa fu (([]:List Layer)) 0
def Qpm (fu:Nat) (x1:Layer) (x5:Pallet):Option (Bool) :=
  Qab (Qau fu x1.fD 1 x5.fD) λAa=>bif (!Aa) then some (true) else Qab (Qau fu x1.fH 1 x5.fH) λAc=>bif (!Ac) then some (true) else Qab (Qau fu x1.fQ 1 x5.fQ) λAb=>some (!Ab)
def Qcg (fu:Nat)  (Ab:List Layer) (f5:Layer→Option Bool) (k1:Int→Option (Int)) (Aa:Int):Option (Int) :=
  bif (decide (Aa<(Ab.length:Int))) then Qab (ix Ab Aa) λAc=>Qab (f5 Ac) λAd=>bif Ad then some (Aa) else k1 (w64 (Aa+1)) else some ((-1))
def Qar (fu:Nat)  (Aa:List Layer) (f5:Layer→Option Bool):Nat→Int→Option (Int)
  | 0=>λ_=>none
  | n+1=>Qcg fu Aa f5 (Qar fu Aa f5 n)
def Qc2 (fu:Nat) (Aa:List Layer) (f5:Layer→Option Bool):Option (Int) :=
  Qar fu Aa f5 fu 0
def Qbr (fu:Nat) (Aa:List Layer) (f5:Layer→Option Bool):Option (Bool) :=
  Qab (Qc2 fu Aa f5) λAb=>some (decide (Ab≥0))
def Qnw (fu:Nat) (p1:Pallet) (Ad:List Layer):Option (Bool) :=
  Qab (Qek fu p1) λAa=>bif Aa then Qab (Qbr fu Ad (λAb=>Qpm fu Ab p1)) λAc=>some (!Ac) else some (false)
def Qpw (fu:Nat) (k7:List Load→Int→Option ((List Load))) (Aa:Int) (Ab:List Load):Option ((List Load)) :=
  k7 Ab (w64 (Aa+1))
def Qdi (fu:Nat) (k7:List Load→Int→Option ((List Load))) (Af:Int) (Ag:Layer) (Ae:List Load) (Ab:Int):Option ((List Load)) :=
  Qab (ix Ae Ab) λAa=>Qab (Qc7 8 Aa.fO (([Af]:List Int))) λAd=>Qab (some ((⟨(⟨Ad,Aa.fH,Aa.fQ⟩:Load).fO,w64 (((⟨Ad,Aa.fH,Aa.fQ⟩:Load).fH)+Ag.fH),(⟨Ad,Aa.fH,Aa.fQ⟩:Load).fQ⟩:Load))) λAc=>Qab (some (Qi1 (Qi1 Ae Ab (⟨Ad,Aa.fH,Aa.fQ⟩:Load)) Ab Ac)) λAh=>Qpw fu k7 Af (Qi1 Ah Ab (⟨Ac.fO,Ac.fH,w64 (Ac.fQ+Ag.fQ)⟩:Load))
def Ql5 (fu:Nat)  (p1:Pallet) (Ae:List Layer) (k7:List Load→Int→Option ((List Load))) (Aa:List Load) (Ab:Int):Option ((List Load)) :=
  bif (decide (Ab<(Ae.length:Int))) then Qab (ix Ae Ab) λAc=>bif (decide ((w64 ((Aa.length:Int) - 1))<0)) then Qab (Qc7 40 Aa [(⟨[],0,0⟩:Load)]) λAf=>Qdi fu k7 Ab Ac Af (w64 ((w64 ((Aa.length:Int) - 1))+1)) else Qab (ix Aa (w64 ((Aa.length:Int) - 1))) λAd=>bif (decide ((w64 (Ad.fH+Ac.fH))>p1.fH)) then Qab (Qc7 40 Aa [(⟨[],0,0⟩:Load)]) λAg=>Qdi fu k7 Ab Ac Ag (w64 ((w64 ((Aa.length:Int) - 1))+1)) else Qab (ix Aa (w64 ((Aa.length:Int) - 1))) λAi=>bif (decide ((w64 (Ad.fQ+Ac.fQ))>p1.fQ)) then Qab (Qc7 40 Aa [(⟨[],0,0⟩:Load)]) λAh=>Qdi fu k7 Ab Ac Ah (w64 ((w64 ((Aa.length:Int) - 1))+1)) else Qdi fu k7 Ab Ac Aa (w64 ((Aa.length:Int) - 1)) else some (Aa)
def Qb1 (fu:Nat)  (p1:Pallet) (Aa:List Layer):Nat→List Load→Int→Option ((List Load))
  | 0=>λ_ _=>none
  | n+1=>Ql5 fu p1 Aa (Qb1 fu p1 Aa n)
def Qqv (fu:Nat) (p1:Pallet) (Aa:List Layer):Option ((List Load)) :=
  Qab (Qnw fu p1 Aa) λAb=>bif (!Ab) then some (([]:List Load)) else Qb1 fu p1 Aa fu (([]:List Load)) 0
def Ql9 (fu:Nat) (Ag:List Spot→Int→Int→Option ((List Spot))) (Ao:List Box) (Al:(List Shelf)) (Am:Int) (Ai:Int) (Ad:Int) (Aj:Int) (Ah:Int) (Ae:Shelf) (Aq:List Spot→Int→Int→Option ((List Spot))) (Ab:List Spot) (Af:Int) (Ac:Int):Option ((List Spot)) :=
  bif (decide (Ac<(Ae.f0.length:Int))) then Qab (ix Ae.f0 Ac) λAa=>Qab (ix Ab Aa) λAr=>Qab (ix Ao Aa) λAk=>Aq (Qi1 Ab Aa (⟨Am,Af,Ad,Ai⟩:Spot)) (w64 (Af+Ak.fW)) (w64 (Ac+1)) else Qab (ix Al Ah) λAp=>Ag Ab (w64 (Ad+Ap.fD)) (w64 (Aj+1))
def Qgy (fu:Nat) (Aa:List Spot→Int→Int→Option ((List Spot))) (Ah:List Box) (Af:(List Shelf)) (Ag:Int) (Ac:Int) (Ad:Int) (Ai:Int) (Ab:Int) (Ae:Shelf):Nat→List Spot→Int→Int→Option ((List Spot))
  | 0=>λ_ _ _=>none
  | n+1=>Ql9 fu Aa Ah Af Ag Ac Ad Ai Ab Ae (Qgy fu Aa Ah Af Ag Ac Ad Ai Ab Ae n)
def Qmv (fu:Nat) (Al:List Spot→Int→Int→Option ((List Spot))) (Ap:List Box) (Ae:(List Shelf)) (Am:(List Layer)) (Ao:Int) (Ac:Int) (Aj:Int) (Aq:Int) (Af:Layer) (Ag:List Spot→Int→Int→Option ((List Spot))) (Ad:List Spot) (Ah:Int) (Aa:Int):Option ((List Spot)) :=
  bif (decide (Aa<(Af.fP.length:Int))) then Qab (ix Af.fP Aa) λAb=>Qab (ix Ae Ab) λAk=>Qgy fu Ag Ap Ae Ao Ac Ah Aa Ab Ak fu Ad 0 0 else Qab (ix Am Aq) λAi=>Al Ad (w64 (Ac+Ai.fH)) (w64 (Aj+1))
def Qdc (fu:Nat) (Ac:List Spot→Int→Int→Option ((List Spot))) (Ag:List Box) (Ae:(List Shelf)) (Ad:(List Layer)) (Af:Int) (Aa:Int) (Ab:Int) (Ah:Int) (Ai:Layer):Nat→List Spot→Int→Int→Option ((List Spot))
  | 0=>λ_ _ _=>none
  | n+1=>Qmv fu Ac Ag Ae Ad Af Aa Ab Ah Ai (Qdc fu Ac Ag Ae Ad Af Aa Ab Ah Ai n)
def Qnc (fu:Nat) (Ak:List Spot→Int→Option ((List Spot))) (Aj:List Box) (Ah:(List Shelf)) (Ac:(List Layer)) (Ad:Int) (Ab:Load) (Ai:List Spot→Int→Int→Option ((List Spot))) (Ae:List Spot) (Ag:Int) (Aa:Int):Option ((List Spot)) :=
  bif (decide (Aa<(Ab.fO.length:Int))) then Qab (ix Ab.fO Aa) λAf=>Qab (ix Ac Af) λAl=>Qdc fu Ai Aj Ah Ac Ad Ag Aa Af Al fu Ae 0 0 else Ak Ae (w64 (Ad+1))
def Qb5 (fu:Nat) (Af:List Spot→Int→Option ((List Spot))) (Ae:List Box) (Ab:(List Shelf)) (Ac:(List Layer)) (Ad:Int) (Aa:Load):Nat→List Spot→Int→Int→Option ((List Spot))
  | 0=>λ_ _ _=>none
  | n+1=>Qnc fu Af Ae Ab Ac Ad Aa (Qb5 fu Af Ae Ab Ac Ad Aa n)
def Ql6 (fu:Nat)  (Ag:List Box) (Ae:(List Shelf)) (Af:(List Layer)) (Ab:(List Load)) (Ah:List Spot→Int→Option ((List Spot))) (Ac:List Spot) (Aa:Int):Option ((List Spot)) :=
  bif (decide (Aa<(Ab.length:Int))) then Qab (ix Ab Aa) λAd=>Qb5 fu Ah Ag Ae Af Aa Ad fu Ac 0 0 else some (Ac)
def Qbi (fu:Nat)  (Ac:List Box) (Aa:(List Shelf)) (Ab:(List Layer)) (Ad:(List Load)):Nat→List Spot→Int→Option ((List Spot))
  | 0=>λ_ _=>none
  | n+1=>Ql6 fu Ac Aa Ab Ad (Qbi fu Ac Aa Ab Ad n)
def Qlk (fu:Nat) (p1:Pallet) (Aa:List Box):Option ((List Spot)) :=
  Qab (Qlb fu p1 Aa) λAf=>bif (!Af) then some (([]:List Spot)) else Qab (Qqj fu p1 Aa) λAb=>Qab (Qpg fu p1 Ab) λAc=>Qab (mk 32 (⟨(0:Int),(0:Int),(0:Int),(0:Int)⟩:Spot) (Aa.length:Int)) λAd=>Qab (Qqv fu p1 Ac) λAe=>Qbi fu Aa Ab Ac Ae fu Ad 0
def Qjw (fu:Nat) (k3:Int→Int→Option (Int)) (Ab:Int) (Aa:Int):Option (Int) :=
  k3 Aa (w64 (Ab+1))
def Qmj (fu:Nat)  (Ad:List Spot) (k3:Int→Int→Option (Int)) (Aa:Int) (Ab:Int):Option (Int) :=
  bif (decide (Ab<(Ad.length:Int))) then Qab (ix Ad Ab) λAc=>Qab (Qau fu Ac.fJ 0 999999) λAe=>bif Ae then Qjw fu k3 Ab (if (w64 (Ac.fJ+1))>Aa then w64 (Ac.fJ+1) else Aa) else Qjw fu k3 Ab Aa else some (Aa)
def Qff (fu:Nat)  (Aa:List Spot):Nat→Int→Int→Option (Int)
  | 0=>λ_ _=>none
  | n+1=>Qmj fu Aa (Qff fu Aa n)
def Qlh (fu:Nat) (Aa:List Spot):Option (Int) :=
  Qff fu Aa fu 0 0
def Qly (fu:Nat) (Ab:List Box→Int→Option (Plan×Bool)) (Ac:Int) (Aa:List Box):Option (Plan×Bool) :=
  Ab Aa (w64 (Ac+1))
def Qo8 (fu:Nat) (Af:List Spot→Int→Int→Option (Plan×Bool)) (Ae:Int) (Aj:Int) (Ac:(List Spot)) (Ai:Int) (Ah:List Spot→Int→Option (Plan×Bool)) (Ad:List Spot) (Ab:Int):Option (Plan×Bool) :=
  bif (decide (Ab<(Ac.length:Int))) then Qab (ix Ac Ab) λAa=>Qab (Qc7 32 Ad (([(⟨w64 (Aa.fJ+Ae),Aa.fX,Aa.fY,Aa.fZ⟩:Spot)]:List Spot))) λAg=>Ah Ag (w64 (Ab+1)) else Af Ad (w64 (Ae+Ai)) (w64 (Aj+1))
def Qgb (fu:Nat) (Aa:List Spot→Int→Int→Option (Plan×Bool)) (Ad:Int) (Ae:Int) (Ab:(List Spot)) (Ac:Int):Nat→List Spot→Int→Option (Plan×Bool)
  | 0=>λ_ _=>none
  | n+1=>Qo8 fu Aa Ad Ae Ab Ac (Qgb fu Aa Ad Ae Ab Ac n)
def Qn3 (fu:Nat) (Ai:List Spot→Int→Int→Option (Plan×Bool)) (r1:Request) (Ag:(List Carton)) (Aj:List Spot) (Al:Int) (Af:Int) (Ac:List Box→Int→Option (Plan×Bool)) (Ab:List Box) (Aa:Int):Option (Plan×Bool) :=
  bif (decide (Aa<(Ag.length:Int))) then Qab (ix Ag Aa) λAe=>bif (Ae.fk==Af) then Qab (Qtj fu r1 Ae) λAm=>Qab (Qc7 32 Ab (([Am]:List Box))) λAh=>Qly fu Ac Aa Ah else Qly fu Ac Aa Ab else Qab (Qlk fu r1.fJ Ab) λAd=>Qab (Qlh fu Ad) λAk=>Qgb fu Ai Al Af Ad Ak fu Aj 0
def Qf5 (fu:Nat) (Aa:List Spot→Int→Int→Option (Plan×Bool)) (r1:Request) (Ae:(List Carton)) (Ab:List Spot) (Ac:Int) (Ad:Int):Nat→List Box→Int→Option (Plan×Bool)
  | 0=>λ_ _=>none
  | n+1=>Qn3 fu Aa r1 Ae Ab Ac Ad (Qf5 fu Aa r1 Ae Ab Ac Ad n)
def Qo0 (fu:Nat)  (r1:Request) (Ac:(List Carton)) (Af:(List (List Int))) (Ad:List Spot→Int→Int→Option (Plan×Bool)) (Aa:List Spot) (Ae:Int) (Ab:Int):Option (Plan×Bool) :=
  bif (decide (Ab<(Af.length:Int))) then Qf5 fu Ad r1 Ac Aa Ae Ab fu (([]:List Box)) 0 else some ((⟨Ac,Aa⟩:Plan),true)
def Qb4 (fu:Nat)  (r1:Request) (Ab:(List Carton)) (Aa:(List (List Int))):Nat→List Spot→Int→Int→Option (Plan×Bool)
  | 0=>λ_ _ _=>none
  | n+1=>Qo0 fu r1 Ab Aa (Qb4 fu r1 Ab Aa n)
def Qr1 (fu:Nat) (r1:Request):Option (Plan×Bool) :=
  Qab (Qfq fu r1) λAb=>bif (!Ab) then some ((⟨[],[]⟩:Plan),false) else Qab (Qlo fu r1) λAc=>Qab (Qic fu r1) λAa=>Qb4 fu r1 Ac Aa fu (([]:List Spot)) 0 0
def Qhv (fu:Nat) (k3:Int→Option (Bool)) (Aa:Int)  : Option (Bool) :=
  k3 (w64 (Aa+1))
def Qiz (fu:Nat)  (Ab:List Int) (k3:Int→Option (Bool)) (Aa:Int):Option (Bool) :=
  bif (decide (Aa<(Ab.length:Int))) then Qab (ix Ab Aa) λAc=>Qab (Qau fu Ac 0 999) λAe=>bif (!Ae) then some (false) else bif (decide (Aa>0)) then Qab (ix Ab (w64 (Aa - 1))) λAd=>bif (decide (Ad≥Ac)) then some (false) else Qhv fu k3 Aa else Qhv fu k3 Aa else some (decide ((Ab.length:Int)≤100))
def Qdm (fu:Nat)  (Aa:List Int):Nat→Int→Option (Bool)
  | 0=>λ_=>none
  | n+1=>Qiz fu Aa (Qdm fu Aa n)
def Qjx (fu:Nat) (Aa:List Int):Option (Bool) :=
  Qdm fu Aa fu 0
def Qhu (fu:Nat) (n1:Int):Option (Bool) :=
  Qab (Qau fu n1 0 2000) λx2=>some (x2)
def Qrc (fu:Nat) (k4:Int→Option (Bool)) (Aa:Int)  : Option (Bool) :=
  k4 (w64 (Aa+1))
def Qn1 (fu:Nat)  (x1:Plan) (k4:Int→Option (Bool)) (Ab:Int):Option (Bool) :=
  bif (decide (Ab<(x1.fE.length:Int))) then Qab (ix x1.fE Ab) λAc=>Qab (ix x1.ft Ab) λAa=>Qab (Qau fu Ac.qQ 0 999) λAd=>bif (!Ad) then some (false) else Qab (Qau fu Ac.fk 0 3) λAh=>bif (!Ah) then some (false) else Qab (Qjx fu Ac.fl) λAe=>bif (!Ae) then some (false) else Qab (Qhu fu Aa.fJ) λAi=>bif (!Ai) then some (false) else Qab (Qhu fu Aa.fX) λAg=>bif (!Ag) then some (false) else Qab (Qhu fu Aa.fY) λAj=>bif (!Aj) then some (false) else Qab (Qhu fu Aa.fZ) λAf=>bif (!Af) then some (false) else Qrc fu k4 Ab else some (true)
def Qf8 (fu:Nat)  (x1:Plan):Nat→Int→Option (Bool)
  | 0=>λ_=>none
  | n+1=>Qn1 fu x1 (Qf8 fu x1 n)
def Qrg (fu:Nat) (x1:Plan)  : Option (Bool) :=
  Qf8 fu x1 fu 0
def Qjz (fu:Nat) (x1:Plan):Option (Bool) :=
  bif ((x1.ft.length:Int) != (x1.fE.length:Int)) then some (false) else bif (decide ((x1.fE.length:Int)>100)) then some (false) else Qrg fu x1
def Qk5 (fu:Nat)  (Ad:List Int) (k1:ByteArray→Int→Option (ByteArray×Bool)) (Ab:ByteArray) (Aa:Int):Option (ByteArray×Bool) :=
  bif (decide (Aa<(Ad.length:Int))) then Qab (ix Ad Aa) λAc=>Qab (Qau fu Ac 0 999999) λAf=>bif (!Af) then some ((⟨#[]⟩:ByteArray),false) else Qab (Qpa fu Ac) λAg=>Qab (Qs5 (⟨#[32]⟩:ByteArray) Ag) λAe=>Qab (Qs5 Ab Ae) λAh=>k1 Ah (w64 (Aa+1)) else Qab (Qs5 Ab (⟨#[10]⟩:ByteArray)) λAi=>some (Ai,true)
def Qeg (fu:Nat)  (Aa:List Int):Nat→ByteArray→Int→Option (ByteArray×Bool)
  | 0=>λ_ _=>none
  | n+1=>Qk5 fu Aa (Qeg fu Aa n)
def Qjt (fu:Nat) (Ab:ByteArray) (Aa:List Int):Option (ByteArray×Bool) :=
  Qeg fu Aa fu Ab 0
def Qkr (fu:Nat)  (x1:Plan) (k1:ByteArray→Int→Option (ByteArray)) (Ad:ByteArray) (Ab:Int):Option (ByteArray) :=
  bif (decide (Ab<(x1.fE.length:Int))) then Qab (ix x1.fE Ab) λAc=>Qab (ix x1.ft Ab) λAa=>Qab (Qc7 8 (([Ac.qQ,Ac.fk,Aa.fJ,Aa.fX,Aa.fY,Aa.fZ]:List Int)) Ac.fl) λAf=>Qab (Qjt fu (⟨#[99,97,114,116,111,110]⟩:ByteArray) Af) λAe=>Qab (Qs5 Ad Ae.1) λAg=>k1 Ag (w64 (Ab+1)) else some (Ad)
def Qdr (fu:Nat)  (x1:Plan):Nat→ByteArray→Int→Option (ByteArray)
  | 0=>λ_ _=>none
  | n+1=>Qkr fu x1 (Qdr fu x1 n)
def Qpf (fu:Nat) (x1:Plan):Option (ByteArray) :=
  Qab (Qjz fu x1) λAa=>bif (!Aa) then some (⟨#[]⟩:ByteArray) else Qdr fu x1 fu (⟨#[]⟩:ByteArray) 0
def Qst (fu:Nat) (Aa:ByteArray):Option (ByteArray×Int) :=
  Qab (Qqq fu Aa) λx2=>bif (x2 != 0) then some ((⟨#[]⟩:ByteArray),x2) else Qab (Qio fu Aa) λx7=>Qab (Qr1 fu x7.1) λAc=>Qab (Qpf fu Ac.1) λAb=>some (Ab,0)
def Ql2 (fu:Nat) (Aa:Int):Option (ByteArray) :=
  Qab (Qau fu Aa 0 (w64 ((((([(⟨#[111,107]⟩:ByteArray),(⟨#[116,101,120,116]⟩:ByteArray),(⟨#[98,111,117,110,100,115]⟩:ByteArray),(⟨#[110,97,109,101,115]⟩:ByteArray),(⟨#[116,97,98,108,101]⟩:ByteArray),(⟨#[117,110,105,116]⟩:ByteArray),(⟨#[112,97,108,108,101,116]⟩:ByteArray)]:List ByteArray)).length:Int)) - 1))) λx7=>bif (!x7) then some (⟨#[]⟩:ByteArray) else Qab (ix (([(⟨#[111,107]⟩:ByteArray),(⟨#[116,101,120,116]⟩:ByteArray),(⟨#[98,111,117,110,100,115]⟩:ByteArray),(⟨#[110,97,109,101,115]⟩:ByteArray),(⟨#[116,97,98,108,101]⟩:ByteArray),(⟨#[117,110,105,116]⟩:ByteArray),(⟨#[112,97,108,108,101,116]⟩:ByteArray)]:List ByteArray)) Aa) λAb=>some (Ab)
def Qtl (fu:Nat) (Aa:Int):Option (ByteArray) :=
  Qab (Ql2 fu Aa) λx2=>Qab (Qs5 (⟨#[33,32]⟩:ByteArray) x2) λAb=>some (Ab)
def Qos (fu:Nat) (Aa:ByteArray):Option (ByteArray) :=
  Qab (Qst fu Aa) λx2=>bif (x2.2 != 0) then Qab (Qtl fu x2.2) λx7=>Qab (Qs5 x7 (⟨#[10]⟩:ByteArray)) λAb=>some (Ab) else some (x2.1)
def Qh6 (fu:Nat) (k3:List ByteArray→Int→Int→Option ((List ByteArray))) (Ac:Int) (Aa:List ByteArray) (Ab:Int):Option ((List ByteArray)) :=
  k3 Aa Ab (w64 (Ac+1))
def Qkl (fu:Nat)  (Ab:ByteArray) (Ai:Int) (k3:List ByteArray→Int→Int→Option ((List ByteArray))) (Ac:List ByteArray) (Ad:Int) (Aa:Int):Option ((List ByteArray)) :=
  bif (decide (Aa≤((Ab.size:Int)))) then bif (Aa==((Ab.size:Int))) then Qab (ssl Ab Ad Aa) λAj=>Qab (Qc7 16 Ac (([Aj]:List ByteArray))) λAg=>Qh6 fu k3 Aa Ag (w64 (Aa+1)) else Qab (sx Ab Aa) λAe=>bif (Ae==Ai) then Qab (ssl Ab Ad Aa) λAh=>Qab (Qc7 16 Ac (([Ah]:List ByteArray))) λAf=>Qh6 fu k3 Aa Af (w64 (Aa+1)) else Qh6 fu k3 Aa Ac Ad else some (Ac)
def Qfr (fu:Nat)  (Ab:ByteArray) (Aa:Int):Nat→List ByteArray→Int→Int→Option ((List ByteArray))
  | 0=>λ_ _ _=>none
  | n+1=>Qkl fu Ab Aa (Qfr fu Ab Aa n)
def Qq5 (fu:Nat) (Ab:ByteArray) (Aa:Int):Option ((List ByteArray)) :=
  Qfr fu Ab Aa fu (([]:List ByteArray)) 0 0
def Qrb (fu:Nat) (k8:Int→Int→Option (Int×Bool)) (Aa:Int) (Ab:Int):Option (Int×Bool) :=
  k8 Ab (w64 (Aa+1))
def Qrp (fu:Nat) (k8:Int→Int→Option (Int×Bool)) (Ab:ByteArray) (Ad:Int) (Aa:Int)  : Option (Int×Bool) :=
  Qab (sx Ab Aa) λAc=>Qrb fu k8 Aa (w64 ((w64 ((w64 (10*Ad))+(w64 Ac))) - 48))
def Qpd (fu:Nat)  (Aa:ByteArray) (k8:Int→Int→Option (Int×Bool)) (Ac:Int) (Ab:Int):Option (Int×Bool) :=
  bif (decide (Ab<((Aa.size:Int)))) then Qab (sx Aa Ab) λAd=>bif (decide (Ad<48)) then some (0,false) else Qab (sx Aa Ab) λAf=>bif (decide (Af>57)) then some (0,false) else Qrp fu k8 Aa Ac Ab else Qab (Qij fu Ac) λAe=>bif (!(Ae.toList==Aa.toList)) then some (0,false) else some (Ac,true)
def Qen (fu:Nat)  (Aa:ByteArray):Nat→Int→Int→Option (Int×Bool)
  | 0=>λ_ _=>none
  | n+1=>Qpd fu Aa (Qen fu Aa n)
def Qrh (fu:Nat) (Aa:ByteArray)  : Option (Int×Bool) :=
  Qen fu Aa fu 0 0
def Qoy (fu:Nat) (Aa:ByteArray):Option (Int×Bool) :=
  bif (decide (((Aa.size:Int))<1)) then some (0,false) else bif (decide (((Aa.size:Int))>6)) then some (0,false) else Qrh fu Aa
def Qog (fu:Nat)  (x4:(List ByteArray)) (k2:List Int→Int→Option ((List Int)×Bool)) (Ab:List Int) (Aa:Int):Option ((List Int)×Bool) :=
  bif (decide (Aa<(x4.length:Int))) then Qab (ix x4 Aa) λAe=>Qab (Qoy fu Ae) λAc=>bif (!Ac.2) then some (([]:List Int),false) else Qab (Qc7 8 Ab (([Ac.1]:List Int))) λAd=>k2 Ad (w64 (Aa+1)) else some (Ab,true)
def Qhj (fu:Nat)  (x4:(List ByteArray)):Nat→List Int→Int→Option ((List Int)×Bool)
  | 0=>λ_ _=>none
  | n+1=>Qog fu x4 (Qhj fu x4 n)
def Qri (fu:Nat) (x4:(List ByteArray))  : Option ((List Int)×Bool) :=
  Qhj fu x4 fu (([]:List Int)) 1
def Qoc (fu:Nat) (Ac:ByteArray) (Ad:ByteArray) (Aa:Int):Option ((List Int)×Bool) :=
  Qab (Qq5 fu Ac 32) λx4=>Qab (ix x4 0) λAb=>bif (!(Ab.toList==Ad.toList)) then some (([]:List Int),false) else bif ((x4.length:Int) != (w64 (Aa+1))) then some (([]:List Int),false) else Qri fu x4
def Qbc (fu:Nat) (Ac:List ByteArray) (Aa:Int) (Ad:ByteArray) (Ae:Int):Option ((List Int)×Bool) :=
  bif (decide (Aa≥(w64 ((Ac.length:Int) - 1)))) then some (([]:List Int),false) else Qab (ix Ac Aa) λAf=>Qab (Qoc fu Af Ad Ae) λAb=>some (Ab.1,Ab.2)
def Qjj (fu:Nat)  (x5:(List ByteArray)) (At:Int) (Aj:Int) (Aq:Int) (Ap:Int) (Ag:Int) (Ae:Int) (Ai:List Pair) (Aw:List Typ) (Ao:Int) (k5:List Item→Int→List Int→Bool→Option (Request×Int)) (Ad:List Item) (Ab:Int) (Aa:List Int) (Ak:Bool):Option (Request×Int) :=
  bif Ak then Qab (ix Aa 0) λAv=>Qab (ix Aa 1) λAu=>Qab (ix Aa 2) λAl=>Qab (ix Aa 3) λAr=>Qab (ix Aa 4) λAf=>Qab (ix Aa 5) λAx=>Qab (ix Aa 6) λAh=>Qab (Qc7 56 Ad (([(⟨Av,Au,Al,Ar,Af,Ax,Ah⟩:Item)]:List Item))) λAs=>Qab (Qbc fu x5 (w64 (Ab+1)) (⟨#[105,116,101,109]⟩:ByteArray) 7) λAc=>k5 As (w64 (Ab+1)) Ac.1 Ac.2 else bif (decide (Ab<(w64 ((x5.length:Int) - 1)))) then some ((⟨0,(⟨0,0,0,0⟩:Pallet),0,[],[],0,[]⟩:Request),Ab) else Qab (ix x5 (w64 ((x5.length:Int) - 1))) λAm=>bif (!(Am.toList==(⟨#[]⟩:ByteArray).toList)) then some ((⟨0,(⟨0,0,0,0⟩:Pallet),0,[],[],0,[]⟩:Request),Ab) else some ((⟨At,(⟨Aj,Aq,Ap,Ag⟩:Pallet),Ae,Ai,Aw,Ao,Ad⟩:Request),(-1))
def Qe5 (fu:Nat)  (x5:(List ByteArray)) (Ai:Int) (Ah:Int) (Ag:Int) (Af:Int) (Ab:Int) (Aa:Int) (Ac:List Pair) (Ae:List Typ) (Ad:Int):Nat→List Item→Int→List Int→Bool→Option (Request×Int)
  | 0=>λ_ _ _ _=>none
  | n+1=>Qjj fu x5 Ai Ah Ag Af Ab Aa Ac Ae Ad (Qe5 fu x5 Ai Ah Ag Af Ab Aa Ac Ae Ad n)
def Qjc (fu:Nat)  (x5:(List ByteArray)) (As:Int) (Al:Int) (Ar:Int) (Aq:Int) (Ah:Int) (Ag:Int) (Ak:List Pair) (k4:List Typ→Int→List Int→Bool→Option (Request×Int)) (Af:List Typ) (Ab:Int) (Aa:List Int) (Au:Bool):Option (Request×Int) :=
  bif Au then Qab (ix Aa 0) λAp=>Qab (ix Aa 1) λAi=>Qab (ix Aa 2) λAm=>Qab (ix Aa 3) λAj=>Qab (ix Aa 4) λAw=>Qab (ix Aa 5) λAt=>Qab (ix Aa 6) λAx=>Qab (Qc7 56 Af (([(⟨Ap,Ai,Am,Aj,Aw,At,Ax⟩:Typ)]:List Typ))) λAv=>Qab (Qbc fu x5 (w64 (Ab+1)) (⟨#[116,121,112,101]⟩:ByteArray) 7) λAc=>k4 Av (w64 (Ab+1)) Ac.1 Ac.2 else Qab (Qbc fu x5 Ab (⟨#[109,97,115,116,101,114]⟩:ByteArray) 1) λAe=>bif (!Ae.2) then some ((⟨0,(⟨0,0,0,0⟩:Pallet),0,[],[],0,[]⟩:Request),Ab) else Qab (ix Ae.1 0) λAo=>Qab (Qbc fu x5 (w64 (Ab+1)) (⟨#[105,116,101,109]⟩:ByteArray) 7) λAd=>Qe5 fu x5 As Al Ar Aq Ah Ag Ak Af Ao fu (([]:List Item)) (w64 (Ab+1)) Ad.1 Ad.2
def Qfa (fu:Nat)  (x5:(List ByteArray)) (Ag:Int) (Af:Int) (Ae:Int) (Ad:Int) (Ab:Int) (Aa:Int) (Ac:List Pair):Nat→List Typ→Int→List Int→Bool→Option (Request×Int)
  | 0=>λ_ _ _ _=>none
  | n+1=>Qjc fu x5 Ag Af Ae Ad Ab Aa Ac (Qfa fu x5 Ag Af Ae Ad Ab Aa Ac n)
def Qq4 (fu:Nat)  (x5:(List ByteArray)) (Ap:Int) (Ag:Int) (Am:Int) (Al:Int) (Ah:Int) (Ai:Int) (k3:List Pair→Int→List Int→Bool→Option (Request×Int)) (Ac:List Pair) (Aa:Int) (Ab:List Int) (Ao:Bool):Option (Request×Int) :=
  bif Ao then Qab (ix Ab 0) λAk=>Qab (ix Ab 1) λAf=>Qab (Qc7 16 Ac (([(⟨Ak,Af⟩:Pair)]:List Pair))) λAj=>Qab (Qbc fu x5 (w64 (Aa+1)) (⟨#[119,105,116,104]⟩:ByteArray) 2) λAe=>k3 Aj (w64 (Aa+1)) Ae.1 Ae.2 else Qab (Qbc fu x5 Aa (⟨#[116,121,112,101]⟩:ByteArray) 7) λAd=>Qfa fu x5 Ap Ag Am Al Ah Ai Ac fu (([]:List Typ)) Aa Ad.1 Ad.2
def Qg1 (fu:Nat)  (x5:(List ByteArray)) (Af:Int) (Ae:Int) (Ad:Int) (Ac:Int) (Ab:Int) (Aa:Int):Nat→List Pair→Int→List Int→Bool→Option (Request×Int)
  | 0=>λ_ _ _ _=>none
  | n+1=>Qq4 fu x5 Af Ae Ad Ac Ab Aa (Qg1 fu x5 Af Ae Ad Ac Ab Aa n)
def Qd2 (fu:Nat) (x5:(List ByteArray)) (Ai:Int):Option (Request×Int) :=
  Qab (Qbc fu x5 1 (⟨#[112,97,108,108,101,116]⟩:ByteArray) 4) λAa=>bif (!Aa.2) then some ((⟨0,(⟨0,0,0,0⟩:Pallet),0,[],[],0,[]⟩:Request),1) else Qab (ix Aa.1 0) λAh=>Qab (ix Aa.1 1) λAg=>Qab (ix Aa.1 2) λAf=>Qab (ix Aa.1 3) λAe=>Qab (Qbc fu x5 2 (⟨#[99,108,97,115,115,101,115]⟩:ByteArray) 1) λAb=>bif (!Ab.2) then some ((⟨0,(⟨0,0,0,0⟩:Pallet),0,[],[],0,[]⟩:Request),2) else Qab (ix Ab.1 0) λAd=>Qab (Qbc fu x5 3 (⟨#[119,105,116,104]⟩:ByteArray) 2) λAc=>Qg1 fu x5 Ai Ah Ag Af Ae Ad fu (([]:List Pair)) 3 Ac.1 Ac.2
def Qg2 (fu:Nat) (x5:(List ByteArray))  : Option (Request×Int) :=
  Qab (ix x5 0) λAa=>bif (Aa.toList==(⟨#[119,97,121,32,110,101,120,116]⟩:ByteArray).toList) then Qd2 fu x5 1 else Qd2 fu x5 0
def Qis (fu:Nat) (Ab:ByteArray):Option (Request×Int) :=
  Qab (Qq5 fu Ab 10) λx5=>bif (decide ((w64 ((x5.length:Int) - 1))>60)) then some ((⟨0,(⟨0,0,0,0⟩:Pallet),0,[],[],0,[]⟩:Request),60) else bif (decide ((w64 ((x5.length:Int) - 1))<1)) then some ((⟨0,(⟨0,0,0,0⟩:Pallet),0,[],[],0,[]⟩:Request),0) else Qab (ix x5 0) λAa=>bif (!(Aa.toList==(⟨#[119,97,121,32,102,105,114,115,116]⟩:ByteArray).toList)) then Qab (ix x5 0) λAc=>bif (!(Aa.toList==(⟨#[119,97,121,32,110,101,120,116]⟩:ByteArray).toList)) then some ((⟨0,(⟨0,0,0,0⟩:Pallet),0,[],[],0,[]⟩:Request),0) else Qg2 fu x5 else Qg2 fu x5
def Qqm (fu:Nat) (Ab:ByteArray):Option (Int) :=
  Qab (Qis fu Ab) λx2=>bif (decide (x2.2≥0)) then some (1) else Qab (Qd8 fu x2.1) λAa=>some (Aa)
def Qj4 (fu:Nat) (Aa:List Int→Int→Option ((List Int))) (Ab:Int) (Ac:List Int):Option ((List Int)) :=
  Aa Ac (w64 (Ab+1))
def Qj7 (fu:Nat) (Ab:Bool→Int→Option ((List Int))) (Ac:Int) (Aa:Bool):Option ((List Int)) :=
  Ab Aa (w64 (Ac+1))
def Qmy (fu:Nat) (Ac:List Int→Int→Option ((List Int))) (r1:Request) (Ad:List Int) (Ab:Int) (Af:Bool→Int→Option ((List Int))) (Ae:Bool) (Aa:Int):Option ((List Int)) :=
  bif (decide (Aa<(r1.fV.length:Int))) then bif Ae then Qj7 fu Af Aa true else Qab (ix r1.fV Aa) λAh=>Qj7 fu Af Aa (Ah.fM==Ab) else bif Ae then Qab (Qc7 8 Ad (([Ab]:List Int))) λAg=>Qj4 fu Ac Ab Ag else Qj4 fu Ac Ab Ad
def Qd5 (fu:Nat) (Aa:List Int→Int→Option ((List Int))) (r1:Request) (Ab:List Int) (Ac:Int):Nat→Bool→Int→Option ((List Int))
  | 0=>λ_ _=>none
  | n+1=>Qmy fu Aa r1 Ab Ac (Qd5 fu Aa r1 Ab Ac n)
def Qmc (fu:Nat)  (r1:Request) (Ac:List Int→Int→Option ((List Int))) (Aa:List Int) (Ab:Int):Option ((List Int)) :=
  bif (decide (Ab<4)) then Qd5 fu Ac r1 Aa Ab fu false 0 else some (Aa)
def Qc8 (fu:Nat)  (r1:Request):Nat→List Int→Int→Option ((List Int))
  | 0=>λ_ _=>none
  | n+1=>Qmc fu r1 (Qc8 fu r1 n)
def Qqt (fu:Nat) (r1:Request):Option ((List Int)) :=
  Qab (Qd8 fu r1) λAa=>bif (Aa != 0) then some (([]:List Int)) else Qc8 fu r1 fu (([]:List Int)) 0
def Qpk (fu:Nat)  (Ab:List Int) (x5:Int) (k1:Int→Option (Bool)) (Aa:Int):Option (Bool) :=
  bif (decide (Aa<(Ab.length:Int))) then Qab (ix Ab Aa) λAc=>bif (Ac==x5) then some (true) else k1 (w64 (Aa+1)) else some (false)
def Qhx (fu:Nat)  (Aa:List Int) (x5:Int):Nat→Int→Option (Bool)
  | 0=>λ_=>none
  | n+1=>Qpk fu Aa x5 (Qhx fu Aa x5 n)
def Qq1 (fu:Nat) (Aa:List Int) (x5:Int):Option (Bool) :=
  Qhx fu Aa x5 fu 0
def Qpy (fu:Nat) (k3:Int→Option (Bool)) (Aa:Int)  : Option (Bool) :=
  k3 (w64 (Aa+1))
def Qm0 (fu:Nat)  (Ae:List Pair) (Ab:List Int) (Ac:Int) (k3:Int→Option (Bool)) (Aa:Int):Option (Bool) :=
  bif (decide (Aa<(Ab.length:Int))) then Qab (ix Ab Aa) λAd=>Qab (Qfj fu Ae Ad Ac) λAf=>bif (!Af) then some (false) else Qab (ix Ab Aa) λAh=>Qab (Qfj fu Ae Ac Ad) λAg=>bif (!Ag) then some (false) else Qpy fu k3 Aa else some (true)
def Qe7 (fu:Nat)  (Ac:List Pair) (Aa:List Int) (Ab:Int):Nat→Int→Option (Bool)
  | 0=>λ_=>none
  | n+1=>Qm0 fu Ac Aa Ab (Qe7 fu Ac Aa Ab n)
def Qqx (fu:Nat) (Ac:List Pair) (Aa:List Int) (Ab:Int):Option (Bool) :=
  Qe7 fu Ac Aa Ab fu 0
def Qhk (fu:Nat) (Aa:List (List Int)→Int→Option ((List (List Int)))) (Ab:Int) (Ac:List (List Int)):Option ((List (List Int))) :=
  Aa Ac (w64 (Ab+1))
def Qlw (fu:Nat) (Ab:Int→Int→Option ((List (List Int)))) (Aa:Int) (Ac:Int):Option ((List (List Int))) :=
  Ab Ac (w64 (Aa - 1))
def Qo4 (fu:Nat) (Ae:List (List Int)→Int→Option ((List (List Int)))) (Aj:List Pair) (Ad:List (List Int)) (Aa:Int) (Af:Int→Int→Option ((List (List Int)))) (Ac:Int) (Ab:Int):Option ((List (List Int))) :=
  bif (decide (Ab≥0)) then Qab (ix Ad Ab) λAk=>Qab (Qqx fu Aj Ak Aa) λAl=>bif Al then Qlw fu Af Ab Ab else Qlw fu Af Ab Ac else bif (decide (Ac<0)) then Qab (Qc7 24 Ad [([Aa]:List Int)]) λAg=>Qhk fu Ae Aa Ag else Qab (ix Ad Ac) λAi=>Qab (Qc7 8 Ai (([Aa]:List Int))) λAh=>Qab (ix Ad Ac) λAm=>Qhk fu Ae Aa (Qi1 Ad Ac Ah)
def Qep (fu:Nat) (Aa:List (List Int)→Int→Option ((List (List Int)))) (Ad:List Pair) (Ac:List (List Int)) (Ab:Int):Nat→Int→Int→Option ((List (List Int)))
  | 0=>λ_ _=>none
  | n+1=>Qo4 fu Aa Ad Ac Ab (Qep fu Aa Ad Ac Ab n)
def Qo7 (fu:Nat)  (Af:List Pair) (Ad:List Int) (Ac:List (List Int)→Int→Option ((List (List Int)))) (Ab:List (List Int)) (Aa:Int):Option ((List (List Int))) :=
  bif (decide (Aa<4)) then Qab (Qq1 fu Ad Aa) λAe=>bif (!Ae) then Qhk fu Ac Aa Ab else Qep fu Ac Af Ab Aa fu ((-1)) (w64 ((Ab.length:Int) - 1)) else some (Ab)
def Qd0 (fu:Nat)  (Ab:List Pair) (Aa:List Int):Nat→List (List Int)→Int→Option ((List (List Int)))
  | 0=>λ_ _=>none
  | n+1=>Qo7 fu Ab Aa (Qd0 fu Ab Aa n)
def Qr2 (fu:Nat) (Ab:List Pair) (Aa:List Int):Option ((List (List Int))) :=
  Qd0 fu Ab Aa fu (([]:List (List Int))) 0
def Qia (fu:Nat) (r1:Request):Option ((List (List Int))) :=
  Qab (Qqt fu r1) λAb=>Qab (Qr2 fu r1.fT Ab) λAa=>some (Aa)
def Qmu (fu:Nat) (k3:List Int→Int→Option ((List Int))) (r1:Request) (Aa:Int) (k4:List Int→Int→Option ((List Int))) (Ab:List Int) (Ac:Int):Option ((List Int)) :=
  Qab (ix r1.fV Aa) λAe=>bif (decide (Ac<Ae.fF)) then Qab (Qc7 8 Ab (([Aa]:List Int))) λAd=>k4 Ad (w64 (Ac+1)) else k3 Ab (w64 (Aa+1))
def Qgw (fu:Nat) (k3:List Int→Int→Option ((List Int))) (r1:Request) (Aa:Int):Nat→List Int→Int→Option ((List Int))
  | 0=>λ_ _=>none
  | n+1=>Qmu fu k3 r1 Aa (Qgw fu k3 r1 Aa n)
def Qme (fu:Nat)  (r1:Request) (k3:List Int→Int→Option ((List Int))) (Aa:List Int) (Ab:Int):Option ((List Int)) :=
  bif (decide (Ab<(r1.fV.length:Int))) then Qgw fu k3 r1 Ab fu Aa 0 else some (Aa)
def Qd9 (fu:Nat)  (r1:Request):Nat→List Int→Int→Option ((List Int))
  | 0=>λ_ _=>none
  | n+1=>Qme fu r1 (Qd9 fu r1 n)
def Qcr (fu:Nat) (r1:Request):Option ((List Int)) :=
  Qd9 fu r1 fu (([]:List Int)) 0
def Qkf (fu:Nat) (k3:List Int→Int→Option ((List Int))) (Ab:Int) (Aa:List Int):Option ((List Int)) :=
  k3 Aa (w64 (Ab+1))
def Qmo (fu:Nat)  (r1:Request) (Ad:Int) (Ae:(List (List Int))) (Ac:(List Int)) (k3:List Int→Int→Option ((List Int))) (Ab:List Int) (Aa:Int):Option ((List Int)) :=
  bif (decide (Aa<(Ac.length:Int))) then Qab (ix Ae Ad) λAg=>Qab (ix Ac Aa) λAh=>Qab (ix r1.fV Ah) λAj=>Qab (Qq1 fu Ag Aj.fM) λAf=>bif Af then Qab (Qc7 8 Ab (([Aa]:List Int))) λAi=>Qkf fu k3 Aa Ai else Qkf fu k3 Aa Ab else some (Ab)
def Qe9 (fu:Nat)  (r1:Request) (Aa:Int) (Ac:(List (List Int))) (Ab:(List Int)):Nat→List Int→Int→Option ((List Int))
  | 0=>λ_ _=>none
  | n+1=>Qmo fu r1 Aa Ac Ab (Qe9 fu r1 Aa Ac Ab n)
def Qqo (fu:Nat) (r1:Request) (Aa:Int):Option ((List Int)) :=
  Qab (Qia fu r1) λAb=>Qab (Qan fu Aa 0 (w64 ((Ab.length:Int) - 1))) λAc=>bif (!Ac) then some (([]:List Int)) else Qab (Qcr fu r1) λAd=>Qe9 fu r1 Aa Ab Ad fu (([]:List Int)) 0
def Qju (fu:Nat) (k3:List Int→Int→Option ((List Int))) (Ab:Int) (Aa:List Int):Option ((List Int)) :=
  k3 Aa (w64 (Ab+1))
def Qnf (fu:Nat)  (Ae:List Int) (Ac:List Int) (k3:List Int→Int→Option ((List Int))) (Ab:List Int) (Aa:Int):Option ((List Int)) :=
  bif (decide (Aa<(Ac.length:Int))) then Qab (ix Ac Aa) λAd=>Qab (Qan fu Ad 0 (w64 ((Ae.length:Int) - 1))) λAf=>bif Af then Qab (ix Ac Aa) λAh=>Qab (Qc7 8 Ab (([Ad]:List Int))) λAg=>Qju fu k3 Aa Ag else Qju fu k3 Aa Ab else some (Ab)
def Qfd (fu:Nat)  (Ab:List Int) (Aa:List Int):Nat→List Int→Int→Option ((List Int))
  | 0=>λ_ _=>none
  | n+1=>Qnf fu Ab Aa (Qfd fu Ab Aa n)
def Qld (fu:Nat) (Ab:List Int) (Aa:List Int):Option ((List Int)) :=
  Qfd fu Ab Aa fu (([]:List Int)) 0
def Qkm (fu:Nat) (r1:Request) (Aa:List Int) (u9:Int):Option (Item×Bool) :=
  Qab (Qan fu u9 0 (w64 ((Aa.length:Int) - 1))) λAc=>bif (!Ac) then some ((⟨0,0,0,0,0,0,0⟩:Item),false) else Qab (ix Aa u9) λAd=>Qab (ix r1.fV Ad) λAb=>some (Ab,true)
def Qq8 (fu:Nat) (Aa:Int) (h2:Int) (d3:Int)  : Option (Int) :=
  some (w64 ((w64 (Aa*h2))*d3))
def Qj0 (fu:Nat) (Aa:Int) (h2:Int) (d3:Int):Option (Int) :=
  Qab (Qan fu Aa 0 2000) λAb=>bif (!Ab) then some (0) else Qab (Qan fu h2 0 2000) λAc=>bif (!Ac) then some (0) else Qab (Qan fu d3 0 2000) λAd=>bif (!Ad) then some (0) else Qq8 fu Aa h2 d3
def Qtt (fu:Nat) (k7:L7→Int→Option (L7)) (Ab:Int) (Aa:L7):Option (L7) :=
  k7 Aa (w64 (Ab+1))
def Qtx (fu:Nat) (k7:L7→Int→Option (L7)) (Ab:L7) (Ad:Int) (Aa:Item):Option (L7) :=
  Qab (Qj0 fu Aa.fW Aa.fH Aa.fD) λAc=>Qtt fu k7 Ad (⟨w64 (Ab.fvol+Ac),w64 (Ab.fgram+Aa.fQ)⟩:L7)
def Qre (fu:Nat)  (r1:Request) (Ae:List Int) (Ac:List Int) (k7:L7→Int→Option (L7)) (Ab:L7) (Aa:Int):Option (L7) :=
  bif (decide (Aa<(Ac.length:Int))) then Qab (ix Ac Aa) λAf=>Qab (Qkm fu r1 Ae Af) λAd=>Qtx fu k7 Ab Aa Ad.1 else some (Ab)
def Qgo (fu:Nat)  (r1:Request) (Ab:List Int) (Aa:List Int):Nat→L7→Int→Option (L7)
  | 0=>λ_ _=>none
  | n+1=>Qre fu r1 Ab Aa (Qgo fu r1 Ab Aa n)
def Qpz (fu:Nat) (r1:Request) (Ab:List Int) (Aa:List Int):Option (L7) :=
  Qgo fu r1 Ab Aa fu (⟨0,0⟩:L7) 0
def Qrk (fu:Nat) (m9:Typ) (Aa:L7):Option (Bool) :=
  Qab (Qj0 fu m9.fW m9.fH m9.fD) λAb=>bif (decide (Aa.fvol≤Ab)) then some (decide (Aa.fgram≤m9.fQ)) else some (false)
def Qop (fu:Nat) (r1:Request) (Af:List Int) (m9:Typ) (Ae:List Int) (Aa:Int):Option (Bool) :=
  Qab (Qc7 8 (([]:List Int)) Ae) λAd=>Qab (Qc7 8 Ad (([Aa]:List Int))) λAc=>Qab (Qpz fu r1 Af Ac) λAb=>Qrk fu m9 Ab
def Qip (fu:Nat) (k3:List (List Int)→Int→Option ((List (List Int)))) (Ab:Int) (Aa:List (List Int)):Option ((List (List Int))) :=
  k3 Aa (w64 (Ab+1))
def Qon (fu:Nat)  (r1:Request) (Ac:List Int) (Af:Typ×Bool) (Ag:(List Int)) (k3:List (List Int)→Int→Option ((List (List Int)))) (Aa:List (List Int)) (Ab:Int):Option ((List (List Int))) :=
  bif (decide (Ab<(Ac.length:Int))) then bif (decide ((Aa.length:Int)>0)) then Qab (ix Aa (w64 ((Aa.length:Int) - 1))) λAe=>Qab (ix Ac Ab) λAd=>Qab (Qop fu r1 Ag Af.1 Ae Ad) λAl=>bif Al then Qab (ix Aa (w64 ((Aa.length:Int) - 1))) λAm=>Qab (ix Ac Ab) λAo=>Qab (Qc7 8 Ae (([Ad]:List Int))) λAk=>Qab (ix Aa (w64 ((Aa.length:Int) - 1))) λAp=>Qip fu k3 Ab (Qi1 Aa (w64 ((Aa.length:Int) - 1)) Ak) else Qab (ix Ac Ab) λAq=>Qab (Qc7 24 Aa [([Ad]:List Int)]) λAj=>Qip fu k3 Ab Aj else Qab (ix Ac Ab) λAi=>Qab (Qc7 24 Aa [([Ai]:List Int)]) λAh=>Qip fu k3 Ab Ah else some (Aa)
def Qf6 (fu:Nat)  (r1:Request) (Ab:List Int) (Aa:Typ×Bool) (Ac:(List Int)):Nat→List (List Int)→Int→Option ((List (List Int)))
  | 0=>λ_ _=>none
  | n+1=>Qon fu r1 Ab Aa Ac (Qf6 fu r1 Ab Aa Ac n)
def Qt7 (fu:Nat) (r1:Request) (Ab:List Int):Option ((List (List Int))) :=
  Qab (Qfo fu r1) λAa=>Qab (Qcr fu r1) λAc=>Qf6 fu r1 Ab Aa Ac fu (([]:List (List Int))) 0
def Qqr (fu:Nat) (r1:Request) (Ae:List Int):Option ((List (List Int))) :=
  Qab (Qd8 fu r1) λAa=>bif (Aa != 0) then some (([]:List (List Int))) else Qab (Qcr fu r1) λAc=>Qab (Qld fu Ac Ae) λAd=>Qab (Qt7 fu r1 Ad) λAb=>some (Ab)
def Qg5 (fu:Nat) (Aa:List Int):Option ((List Int)) :=
  Qab (Qjh fu (Aa.length:Int)) λx5=>Qab (Qlf fu Aa x5 true) λAb=>some (Ab)
def Qkb (fu:Nat) (Aa:List (List Int)→Int→Option ((List (List Int)))) (Ac:Int) (Ab:List (List Int)):Option ((List (List Int))) :=
  Aa Ab (w64 (Ac+1))
def Qke (fu:Nat) (Ab:Int→Int→Option ((List (List Int)))) (Aa:Int) (Ac:Int):Option ((List (List Int))) :=
  Ab Ac (w64 (Aa - 1))
def Qmn (fu:Nat) (Ae:List (List Int)→Int→Option ((List (List Int)))) (r1:Request) (Ah:Typ×Bool) (Ak:(List Int)) (Ac:List (List Int)) (Ag:Int) (Ad:Int) (Af:Int→Int→Option ((List (List Int)))) (Aa:Int) (Ab:Int):Option ((List (List Int))) :=
  bif (decide (Ab≥0)) then Qab (ix Ac Ab) λAm=>Qab (Qop fu r1 Ak Ah.1 Am Ad) λAi=>bif Ai then Qke fu Af Ab Ab else Qke fu Af Ab Aa else bif (decide (Aa<0)) then Qab (Qc7 24 Ac [([Ad]:List Int)]) λAj=>Qkb fu Ae Ag Aj else Qab (ix Ac Aa) λAl=>Qab (Qc7 8 Al (([Ad]:List Int))) λAo=>Qab (ix Ac Aa) λAp=>Qkb fu Ae Ag (Qi1 Ac Aa Ao)
def Qex (fu:Nat) (Ac:List (List Int)→Int→Option ((List (List Int)))) (r1:Request) (Aa:Typ×Bool) (Ab:(List Int)) (Af:List (List Int)) (Ae:Int) (Ad:Int):Nat→Int→Int→Option ((List (List Int)))
  | 0=>λ_ _=>none
  | n+1=>Qmn fu Ac r1 Aa Ab Af Ae Ad (Qex fu Ac r1 Aa Ab Af Ae Ad n)
def Qmz (fu:Nat)  (r1:Request) (Ai:List Int) (Ad:Typ×Bool) (Ae:(List Int)) (Ac:(List Int)) (Af:List (List Int)→Int→Option ((List (List Int)))) (Ab:List (List Int)) (Aa:Int):Option ((List (List Int))) :=
  bif (decide (Aa<(Ac.length:Int))) then Qab (ix Ac Aa) λAg=>Qab (ix Ai Ag) λAh=>Qex fu Af r1 Ad Ae Ab Aa Ah fu ((-1)) (w64 ((Ab.length:Int) - 1)) else some (Ab)
def Qch (fu:Nat)  (r1:Request) (Ab:List Int) (Aa:Typ×Bool) (Ad:(List Int)) (Ac:(List Int)):Nat→List (List Int)→Int→Option ((List (List Int)))
  | 0=>λ_ _=>none
  | n+1=>Qmz fu r1 Ab Aa Ad Ac (Qch fu r1 Ab Aa Ad Ac n)
def Qm9 (fu:Nat)  (r1:Request) (Ab:List Int) (Ae:Typ×Bool) (Ac:(List Int)) (k1:List Int→Int→Option ((List (List Int)))) (Ad:List Int) (Aa:Int):Option ((List (List Int))) :=
  bif (decide (Aa<(Ab.length:Int))) then Qab (sls Ab Aa (w64 (Aa+1))) λAh=>Qab (Qpz fu r1 Ac Ah) λAf=>Qab (Qc7 8 Ad (([Af.fvol]:List Int))) λAi=>k1 Ai (w64 (Aa+1)) else Qab (Qg5 fu Ad) λAg=>Qch fu r1 Ab Ae Ac Ag fu (([]:List (List Int))) 0
def Qgu (fu:Nat)  (r1:Request) (Ab:List Int) (Aa:Typ×Bool) (Ac:(List Int)):Nat→List Int→Int→Option ((List (List Int)))
  | 0=>λ_ _=>none
  | n+1=>Qm9 fu r1 Ab Aa Ac (Qgu fu r1 Ab Aa Ac n)
def Qtk (fu:Nat) (r1:Request) (Ab:List Int):Option ((List (List Int))) :=
  Qab (Qfo fu r1) λAa=>Qab (Qcr fu r1) λAc=>Qgu fu r1 Ab Aa Ac fu (([]:List Int)) 0
def Qo1 (fu:Nat) (r1:Request) (Ae:List Int):Option ((List (List Int))) :=
  Qab (Qd8 fu r1) λAa=>bif (Aa != 0) then some (([]:List (List Int))) else Qab (Qcr fu r1) λAc=>Qab (Qld fu Ac Ae) λAd=>Qab (Qtk fu r1 Ad) λAb=>some (Ab)
def Qqk (fu:Nat) (r1:Request) (Aa:List Int):Option ((List (List Int))) :=
  bif (r1.f9==1) then Qab (Qqr fu r1 Aa) λAb=>some (Ab) else Qab (Qo1 fu r1 Aa) λAc=>some (Ac)
def Qs0 (fu:Nat) (r1:Request) (Ad:List Int) (t9:Typ) (Ac:(List Int))  : Option (Bool) :=
  Qab (Qpz fu r1 Ac Ad) λAa=>Qab (Qj0 fu t9.fW t9.fH t9.fD) λAb=>bif (decide (Aa.fvol≤Ab)) then some (decide (Aa.fgram≤t9.fQ)) else some (false)
def Qsn (fu:Nat) (Ab:Int→Option (Bool)) (Aa:Int)  : Option (Bool) :=
  Ab (w64 (Aa+1))
def Qsk (fu:Nat) (Aa:Int→Option (Bool)) (t9:Typ) (Ad:Int) (Ae:Item) (Ac:Bool):Option (Bool) :=
  bif (!Ac) then some (false) else Qab (Qps fu Ae t9) λAb=>bif (!Ab) then some (false) else Qsn fu Aa Ad
def Qp3 (fu:Nat)  (r1:Request) (Aa:List Int) (t9:Typ) (Ac:(List Int)) (Af:Int→Option (Bool)) (Ab:Int):Option (Bool) :=
  bif (decide (Ab<(Aa.length:Int))) then Qab (ix Aa Ab) λAe=>Qab (Qkm fu r1 Ac Ae) λAd=>Qsk fu Af t9 Ab Ad.1 Ad.2 else Qs0 fu r1 Aa t9 Ac
def Qfm (fu:Nat)  (r1:Request) (Ab:List Int) (t9:Typ) (Aa:(List Int)):Nat→Int→Option (Bool)
  | 0=>λ_=>none
  | n+1=>Qp3 fu r1 Ab t9 Aa (Qfm fu r1 Ab t9 Aa n)
def Qte (fu:Nat) (r1:Request) (Ab:List Int) (t9:Typ):Option (Bool) :=
  Qab (Qd8 fu r1) λAa=>bif (Aa != 0) then some (false) else Qab (Qcr fu r1) λAc=>Qfm fu r1 Ab t9 Ac fu 0
def Qdq (fu:Nat) (k3:Typ→Bool→Int→Option (Typ×Bool)) (Aa:Int) (Ab:Typ) (Ac:Bool):Option (Typ×Bool) :=
  k3 Ab Ac (w64 (Aa+1))
def Qkz (fu:Nat)  (r1:Request) (Af:List Int) (k3:Typ→Bool→Int→Option (Typ×Bool)) (Ac:Typ) (Ad:Bool) (Aa:Int):Option (Typ×Bool) :=
  bif (decide (Aa<(r1.fG.length:Int))) then Qab (ix r1.fG Aa) λAb=>Qab (Qte fu r1 Af Ab) λAe=>bif (!Ae) then Qdq fu k3 Aa Ac Ad else bif (!Ad) then Qdq fu k3 Aa Ab true else bif (decide (Ab.fL<Ac.fL)) then Qdq fu k3 Aa Ab true else bif (Ab.fL==Ac.fL) then bif (decide (Ab.f8<Ac.f8)) then Qdq fu k3 Aa Ab true else Qdq fu k3 Aa Ac Ad else Qdq fu k3 Aa Ac Ad else some (Ac,Ad)
def Qel (fu:Nat)  (r1:Request) (Aa:List Int):Nat→Typ→Bool→Int→Option (Typ×Bool)
  | 0=>λ_ _ _=>none
  | n+1=>Qkz fu r1 Aa (Qel fu r1 Aa n)
def Qoe (fu:Nat) (r1:Request) (Aa:List Int):Option (Typ×Bool) :=
  Qel fu r1 Aa fu (⟨0,0,0,0,0,0,0⟩:Typ) false 0
def Qmp (fu:Nat) (Ac:List Carton→Int→Option ((List Carton))) (Aa:Int) (Ab:List Carton):Option ((List Carton)) :=
  Ac Ab (w64 (Aa+1))
def Qik (fu:Nat) (Ab:List Carton→Int→Option ((List Carton))) (Aa:Int) (Ac:List Carton):Option ((List Carton)) :=
  Ab Ac (w64 (Aa+1))
def Qjg (fu:Nat) (Ap:List Carton→Int→Option ((List Carton))) (Al:Int) (Aj:(List (List Int))) (Ai:List Carton) (Ac:Int) (Ae:Typ) (Ab:(List Int)) (Am:List Int→Int→Option ((List Carton))) (Ad:List Int) (Aa:Int):Option ((List Carton)) :=
  bif (decide (Aa<(Ab.length:Int))) then Qab (ix Aj Ac) λAh=>Qab (ix Ab Aa) λAg=>Qab (ix Ah Ag) λAf=>Qab (Qc7 8 Ad (([Af]:List Int))) λAo=>Am Ao (w64 (Aa+1)) else Qab (Qc7 40 Ai [(⟨Ae.f8,Al,Ad⟩:Carton)]) λAk=>Qik fu Ap Ac Ak
def Qfb (fu:Nat) (Ag:List Carton→Int→Option ((List Carton))) (Ae:Int) (Ad:(List (List Int))) (Ac:List Carton) (Af:Int) (Aa:Typ) (Ab:(List Int)):Nat→List Int→Int→Option ((List Carton))
  | 0=>λ_ _=>none
  | n+1=>Qjg fu Ag Ae Ad Ac Af Aa Ab (Qfb fu Ag Ae Ad Ac Af Aa Ab n)
def Qnh (fu:Nat) (Ah:List Carton→Int→Option ((List Carton))) (Ag:Int) (Aa:(List (List Int))) (Af:List Carton) (Ab:Int) (Ad:Typ):Option ((List Carton)) :=
  Qab (ix Aa Ab) λAc=>Qab (Qoj fu Ac) λAe=>Qfb fu Ah Ag Aa Af Ab Ad Ae fu (([]:List Int)) 0
def Qjb (fu:Nat) (Af:List Carton→Int→Option ((List Carton))) (r1:Request) (Ad:Int) (Aa:(List (List Int))) (Ah:List Carton→Int→Option ((List Carton))) (Ac:List Carton) (Ab:Int):Option ((List Carton)) :=
  bif (decide (Ab<(Aa.length:Int))) then Qab (ix Aa Ab) λAg=>Qab (Qoe fu r1 Ag) λAe=>Qnh fu Ah Ad Aa Ac Ab Ae.1 else Qmp fu Af Ad Ac
def Qbu (fu:Nat) (Ac:List Carton→Int→Option ((List Carton))) (r1:Request) (Aa:Int) (Ab:(List (List Int))):Nat→List Carton→Int→Option ((List Carton))
  | 0=>λ_ _=>none
  | n+1=>Qjb fu Ac r1 Aa Ab (Qbu fu Ac r1 Aa Ab n)
def Qi8 (fu:Nat)  (r1:Request) (Ac:(List (List Int))) (Ae:List Carton→Int→Option ((List Carton))) (Ab:List Carton) (Aa:Int):Option ((List Carton)) :=
  bif (decide (Aa<(Ac.length:Int))) then Qab (Qqo fu r1 Aa) λAf=>Qab (Qqk fu r1 Af) λAd=>Qbu fu Ae r1 Aa Ad fu Ab 0 else some (Ab)
def Qa7 (fu:Nat)  (r1:Request) (Aa:(List (List Int))):Nat→List Carton→Int→Option ((List Carton))
  | 0=>λ_ _=>none
  | n+1=>Qi8 fu r1 Aa (Qa7 fu r1 Aa n)
def Qlv (fu:Nat) (r1:Request):Option ((List Carton)) :=
  Qab (Qia fu r1) λAa=>Qa7 fu r1 Aa fu (([]:List Carton)) 0
def Qko (fu:Nat)  (r1:Request) (Ac:Int) (k1:Int→Option (Typ×Bool)) (Aa:Int):Option (Typ×Bool) :=
  bif (decide (Aa<(r1.fG.length:Int))) then Qab (ix r1.fG Aa) λAb=>bif (Ab.f8==Ac) then Qab (ix r1.fG Aa) λAd=>some (Ab,true) else k1 (w64 (Aa+1)) else some ((⟨0,0,0,0,0,0,0⟩:Typ),false)
def Qfv (fu:Nat)  (r1:Request) (Aa:Int):Nat→Int→Option (Typ×Bool)
  | 0=>λ_=>none
  | n+1=>Qko fu r1 Aa (Qfv fu r1 Aa n)
def Qjs (fu:Nat) (r1:Request) (Aa:Int):Option (Typ×Bool) :=
  Qfv fu r1 Aa fu 0
def Qti (fu:Nat) (r1:Request):Option ((List Int)) :=
  Qab (Qd8 fu r1) λAa=>bif (Aa != 0) then some (([]:List Int)) else Qab (Qcr fu r1) λAb=>some (Ab)
def Qrr (fu:Nat) (k7:Int→Int→Option (Int)) (Ab:Int) (Aa:Int):Option (Int) :=
  k7 Aa (w64 (Ab+1))
def Qrl (fu:Nat) (k7:Int→Int→Option (Int)) (Aa:Int) (Ac:Int) (Ab:Item):Option (Int) :=
  Qrr fu k7 Ac (w64 (Aa+Ab.fQ))
def Qo3 (fu:Nat)  (r1:Request) (Ac:List Int) (Ad:(List Int)) (k7:Int→Int→Option (Int)) (Ab:Int) (Aa:Int):Option (Int) :=
  bif (decide (Aa<(Ac.length:Int))) then Qab (ix Ac Aa) λAe=>Qab (Qkm fu r1 Ad Ae) λAf=>Qrl fu k7 Ab Aa Af.1 else some (Ab)
def Qem (fu:Nat)  (r1:Request) (Ab:List Int) (Aa:(List Int)):Nat→Int→Int→Option (Int)
  | 0=>λ_ _=>none
  | n+1=>Qo3 fu r1 Ab Aa (Qem fu r1 Ab Aa n)
def Qr4 (fu:Nat) (r1:Request) (Ab:List Int):Option (Int) :=
  Qab (Qti fu r1) λAa=>Qem fu r1 Ab Aa fu 0 0
def Qsv (fu:Nat) (r1:Request) (x5:Carton) (Aa:Typ×Bool)  : Option (Int) :=
  Qab (Qr4 fu r1 x5.fl) λAb=>some (w64 (Aa.1.fK+Ab))
def Qtd (fu:Nat) (r1:Request) (x5:Carton):Option (Int) :=
  Qab (Qjs fu r1 x5.qQ) λAa=>Qab (Qd8 fu r1) λAb=>bif (Ab != 0) then some (0) else bif (!Aa.2) then some (0) else Qsv fu r1 x5 Aa
def Qss (fu:Nat) (r1:Request) (x5:Carton) (Aa:Typ×Bool)  : Option (Box) :=
  Qab (Qtd fu r1 x5) λAb=>some (⟨Aa.1.fW,Aa.1.fD,Aa.1.fH,Ab⟩:Box)
def Qs9 (fu:Nat) (r1:Request) (x5:Carton):Option (Box) :=
  Qab (Qjs fu r1 x5.qQ) λAa=>Qab (Qd8 fu r1) λAb=>bif (Ab != 0) then some (⟨0,0,0,0⟩:Box) else bif (!Aa.2) then some (⟨0,0,0,0⟩:Box) else Qss fu r1 x5 Aa
def Qpl (fu:Nat) (k3:Int→Option (Bool)) (Aa:Int)  : Option (Bool) :=
  k3 (w64 (Aa+1))
def Qmk (fu:Nat)  (p1:Pallet) (Ac:List Box) (k3:Int→Option (Bool)) (Ab:Int):Option (Bool) :=
  bif (decide (Ab<(Ac.length:Int))) then Qab (ix Ac Ab) λAa=>Qab (Qan fu Aa.fW 1 p1.fW) λAd=>bif (!Ad) then some (false) else Qab (Qan fu Aa.fD 1 p1.fD) λAf=>bif (!Af) then some (false) else Qab (Qan fu Aa.fH 1 p1.fH) λAe=>bif (!Ae) then some (false) else Qab (Qan fu Aa.fQ 1 p1.fQ) λAg=>bif (!Ag) then some (false) else Qpl fu k3 Ab else some (true)
def Qfh (fu:Nat)  (p1:Pallet) (Aa:List Box):Nat→Int→Option (Bool)
  | 0=>λ_=>none
  | n+1=>Qmk fu p1 Aa (Qfh fu p1 Aa n)
def Qll (fu:Nat) (p1:Pallet) (Ab:List Box):Option (Bool) :=
  Qab (Qg6 fu p1) λAa=>bif (!Aa) then some (false) else Qfh fu p1 Ab fu 0
def Qjr (fu:Nat) (a1:Int) (b2:Int):Option (Int) :=
  bif (decide (a1>b2)) then some (a1) else some (b2)
def Qgm (fu:Nat) (Aa:Shelf) (Ac:Int) (b6:Box):Option (Shelf) :=
  Qab (Qc7 8 (([]:List Int)) Aa.f0) λAb=>Qab (Qc7 8 Ab (([Ac]:List Int))) λAf=>Qab (Qjr fu Aa.fD b6.fD) λAd=>Qab (Qjr fu Aa.fH b6.fH) λAe=>some (⟨Af,w64 (Aa.fW+b6.fW),Ad,Ae,w64 (Aa.fQ+b6.fQ)⟩:Shelf)
def Qgs (fu:Nat) (k4:List Shelf→Int→Option ((List Shelf))) (Ab:Int) (Aa:List Shelf):Option ((List Shelf)) :=
  k4 Aa (w64 (Ab+1))
def Ql7 (fu:Nat)  (p1:Pallet) (Ag:List Box) (Ad:(List Int)) (k4:List Shelf→Int→Option ((List Shelf))) (Aa:List Shelf) (Ab:Int):Option ((List Shelf)) :=
  bif (decide (Ab<(Ad.length:Int))) then Qab (ix Ad Ab) λAe=>Qab (ix Ag Ae) λAc=>bif (decide ((Aa.length:Int)>0)) then Qab (ix Aa (w64 ((Aa.length:Int) - 1))) λAf=>bif (decide ((w64 (Af.fW+Ac.fW))≤p1.fW)) then Qab (ix Aa (w64 ((Aa.length:Int) - 1))) λAu=>bif (decide ((w64 (Af.fQ+Ac.fQ))≤p1.fQ)) then Qab (ix Aa (w64 ((Aa.length:Int) - 1))) λAt=>Qab (ix Ad Ab) λAq=>Qab (Qgm fu Af Ae Ac) λAi=>Qab (ix Aa (w64 ((Aa.length:Int) - 1))) λAv=>Qgs fu k4 Ab (Qi1 Aa (w64 ((Aa.length:Int) - 1)) Ai) else Qab (ix Ad Ab) λAr=>Qab (Qgm fu (⟨[],0,0,0,0⟩:Shelf) Ae Ac) λAl=>Qab (Qc7 56 Aa [Al]) λAo=>Qgs fu k4 Ab Ao else Qab (ix Ad Ab) λAs=>Qab (Qgm fu (⟨[],0,0,0,0⟩:Shelf) Ae Ac) λAh=>Qab (Qc7 56 Aa [Ah]) λAk=>Qgs fu k4 Ab Ak else Qab (ix Ad Ab) λAp=>Qab (Qgm fu (⟨[],0,0,0,0⟩:Shelf) Ae Ac) λAm=>Qab (Qc7 56 Aa [Am]) λAj=>Qgs fu k4 Ab Aj else some (Aa)
def Qd4 (fu:Nat)  (p1:Pallet) (Ab:List Box) (Aa:(List Int)):Nat→List Shelf→Int→Option ((List Shelf))
  | 0=>λ_ _=>none
  | n+1=>Ql7 fu p1 Ab Aa (Qd4 fu p1 Ab Aa n)
def Qm6 (fu:Nat)  (p1:Pallet) (Ab:List Box) (k1:List Int→Int→Option ((List Shelf))) (Ac:List Int) (Aa:Int):Option ((List Shelf)) :=
  bif (decide (Aa<(Ab.length:Int))) then Qab (ix Ab Aa) λAd=>Qab (Qc7 8 Ac (([Ad.fD]:List Int))) λAe=>k1 Ae (w64 (Aa+1)) else Qab (Qg5 fu Ac) λAf=>Qd4 fu p1 Ab Af fu (([]:List Shelf)) 0
def Qgv (fu:Nat)  (p1:Pallet) (Aa:List Box):Nat→List Int→Int→Option ((List Shelf))
  | 0=>λ_ _=>none
  | n+1=>Qm6 fu p1 Aa (Qgv fu p1 Aa n)
def Qqy (fu:Nat) (p1:Pallet) (Aa:List Box):Option ((List Shelf)) :=
  Qab (Qll fu p1 Aa) λAb=>bif (!Ab) then some (([]:List Shelf)) else Qgv fu p1 Aa fu (([]:List Int)) 0
def Qq6 (fu:Nat) (p1:Pallet) (d2:Int) (h3:Int) (Ab:Int):Option (Bool) :=
  Qab (Qan fu d2 1 p1.fD) λx8=>bif x8 then Qab (Qan fu h3 1 p1.fH) λAa=>bif Aa then Qab (Qan fu Ab 1 p1.fQ) λAc=>some (Ac) else some (false) else some (false)
def Qi7 (fu:Nat)  (p1:Pallet) (Ab:List Shelf) (k1:Int→Option (Bool)) (Aa:Int):Option (Bool) :=
  bif (decide (Aa<(Ab.length:Int))) then Qab (ix Ab Aa) λAc=>Qab (ix Ab Aa) λAf=>Qab (ix Ab Aa) λAe=>Qab (Qq6 fu p1 Ac.fD Ac.fH Ac.fQ) λAd=>bif (!Ad) then some (false) else k1 (w64 (Aa+1)) else some (true)
def Qe2 (fu:Nat)  (p1:Pallet) (Aa:List Shelf):Nat→Int→Option (Bool)
  | 0=>λ_=>none
  | n+1=>Qi7 fu p1 Aa (Qe2 fu p1 Aa n)
def Qlq (fu:Nat) (p1:Pallet) (Ab:List Shelf):Option (Bool) :=
  Qab (Qg6 fu p1) λAa=>bif (!Aa) then some (false) else Qe2 fu p1 Ab fu 0
def Qow (fu:Nat) (k7:List Layer→Int→Option ((List Layer))) (Ab:Int) (Aa:List Layer):Option ((List Layer)) :=
  k7 Aa (w64 (Ab+1))
def Qc0 (fu:Nat) (k7:List Layer→Int→Option ((List Layer))) (Ae:Int) (Ac:Shelf) (Ad:List Layer) (Ab:Int):Option ((List Layer)) :=
  Qab (ix Ad (w64 (Ab - 1))) λAa=>Qab (Qc7 8 (([]:List Int)) Aa.fP) λAh=>Qab (Qc7 8 Ah (([Ae]:List Int))) λAg=>Qab (Qjr fu Aa.fH Ac.fH) λAf=>Qab (ix Ad (w64 (Ab - 1))) λAi=>Qow fu k7 Ae (Qi1 Ad (w64 (Ab - 1)) (⟨Ag,w64 (Aa.fD+Ac.fD),Af,w64 (Aa.fQ+Ac.fQ)⟩:Layer))
def Qk0 (fu:Nat)  (p1:Pallet) (Ae:List Shelf) (k7:List Layer→Int→Option ((List Layer))) (Aa:List Layer) (Ac:Int):Option ((List Layer)) :=
  bif (decide (Ac<(Ae.length:Int))) then Qab (ix Ae Ac) λAb=>bif ((Aa.length:Int)==0) then Qab (Qc7 48 Aa [(⟨[],0,0,0⟩:Layer)]) λAh=>Qc0 fu k7 Ac Ab Ah (w64 ((Aa.length:Int)+1)) else Qab (ix Aa (w64 ((Aa.length:Int) - 1))) λAd=>bif (decide ((w64 (Ad.fD+Ab.fD))>p1.fD)) then Qab (Qc7 48 Aa [(⟨[],0,0,0⟩:Layer)]) λAf=>Qc0 fu k7 Ac Ab Af (w64 ((Aa.length:Int)+1)) else Qab (ix Aa (w64 ((Aa.length:Int) - 1))) λAi=>bif (decide ((w64 (Ad.fQ+Ab.fQ))>p1.fQ)) then Qab (Qc7 48 Aa [(⟨[],0,0,0⟩:Layer)]) λAg=>Qc0 fu k7 Ac Ab Ag (w64 ((Aa.length:Int)+1)) else Qc0 fu k7 Ac Ab Aa (Aa.length:Int) else some (Aa)
def Qbf (fu:Nat)  (p1:Pallet) (Aa:List Shelf):Nat→List Layer→Int→Option ((List Layer))
  | 0=>λ_ _=>none
  | n+1=>Qk0 fu p1 Aa (Qbf fu p1 Aa n)
def Qn4 (fu:Nat) (p1:Pallet) (Aa:List Shelf):Option ((List Layer)) :=
  Qab (Qlq fu p1 Aa) λAb=>bif (!Ab) then some (([]:List Layer)) else Qbf fu p1 Aa fu (([]:List Layer)) 0
def Qk6 (fu:Nat)  (p1:Pallet) (Ab:List Layer) (k1:Int→Option (Bool)) (Aa:Int):Option (Bool) :=
  bif (decide (Aa<(Ab.length:Int))) then Qab (ix Ab Aa) λAc=>Qab (ix Ab Aa) λAf=>Qab (ix Ab Aa) λAe=>Qab (Qq6 fu p1 Ac.fD Ac.fH Ac.fQ) λAd=>bif (!Ad) then some (false) else k1 (w64 (Aa+1)) else some (true)
def Qfs (fu:Nat)  (p1:Pallet) (Aa:List Layer):Nat→Int→Option (Bool)
  | 0=>λ_=>none
  | n+1=>Qk6 fu p1 Aa (Qfs fu p1 Aa n)
def Qpi (fu:Nat) (p1:Pallet) (Ab:List Layer):Option (Bool) :=
  Qab (Qg6 fu p1) λAa=>bif (!Aa) then some (false) else Qfs fu p1 Ab fu 0
def Qp9 (fu:Nat) (k7:List Load→Int→Option ((List Load))) (Aa:Int) (Ab:List Load):Option ((List Load)) :=
  k7 Ab (w64 (Aa+1))
def Qdf (fu:Nat) (k7:List Load→Int→Option ((List Load))) (Ad:Int) (Ae:Layer) (Ab:List Load) (Aa:Int):Option ((List Load)) :=
  Qab (ix Ab (w64 (Aa - 1))) λAc=>Qab (Qc7 8 (([]:List Int)) Ac.fO) λAf=>Qab (Qc7 8 Af (([Ad]:List Int))) λAg=>Qab (ix Ab (w64 (Aa - 1))) λAh=>Qp9 fu k7 Ad (Qi1 Ab (w64 (Aa - 1)) (⟨Ag,w64 (Ac.fH+Ae.fH),w64 (Ac.fQ+Ae.fQ)⟩:Load))
def Qmd (fu:Nat)  (p1:Pallet) (Ae:List Layer) (k7:List Load→Int→Option ((List Load))) (Aa:List Load) (Ab:Int):Option ((List Load)) :=
  bif (decide (Ab<(Ae.length:Int))) then Qab (ix Ae Ab) λAc=>bif ((Aa.length:Int)==0) then Qab (Qc7 40 Aa [(⟨[],0,0⟩:Load)]) λAh=>Qdf fu k7 Ab Ac Ah (w64 ((Aa.length:Int)+1)) else Qab (ix Aa (w64 ((Aa.length:Int) - 1))) λAd=>bif (decide ((w64 (Ad.fH+Ac.fH))>p1.fH)) then Qab (Qc7 40 Aa [(⟨[],0,0⟩:Load)]) λAf=>Qdf fu k7 Ab Ac Af (w64 ((Aa.length:Int)+1)) else Qab (ix Aa (w64 ((Aa.length:Int) - 1))) λAi=>bif (decide ((w64 (Ad.fQ+Ac.fQ))>p1.fQ)) then Qab (Qc7 40 Aa [(⟨[],0,0⟩:Load)]) λAg=>Qdf fu k7 Ab Ac Ag (w64 ((Aa.length:Int)+1)) else Qdf fu k7 Ab Ac Aa (Aa.length:Int) else some (Aa)
def Qbn (fu:Nat)  (p1:Pallet) (Aa:List Layer):Nat→List Load→Int→Option ((List Load))
  | 0=>λ_ _=>none
  | n+1=>Qmd fu p1 Aa (Qbn fu p1 Aa n)
def Qq0 (fu:Nat) (p1:Pallet) (Aa:List Layer):Option ((List Load)) :=
  Qab (Qpi fu p1 Aa) λAb=>bif (!Ab) then some (([]:List Load)) else Qbn fu p1 Aa fu (([]:List Load)) 0
def Qmw (fu:Nat) (Ag:List Spot→Int→Int→Option ((List Spot))) (Al:List Box) (Ah:Int) (Ak:Int) (Af:Int) (Aj:Int) (Ab:Shelf) (Am:List Spot→Int→Int→Option ((List Spot))) (Ad:List Spot) (Ae:Int) (Aa:Int):Option ((List Spot)) :=
  bif (decide (Aa<(Ab.f0.length:Int))) then Qab (ix Ab.f0 Aa) λAc=>Qab (ix Ad Ac) λAo=>Qab (ix Ab.f0 Aa) λAp=>Qab (ix Al Ac) λAi=>Am (Qi1 Ad Ac (⟨Ah,Ae,Af,Ak⟩:Spot)) (w64 (Ae+Ai.fW)) (w64 (Aa+1)) else Ag Ad (w64 (Af+Ab.fD)) (w64 (Aj+1))
def Qgr (fu:Nat) (Aa:List Spot→Int→Int→Option ((List Spot))) (Ae:List Box) (Ab:Int) (Ad:Int) (Af:Int) (Ac:Int) (Ag:Shelf):Nat→List Spot→Int→Int→Option ((List Spot))
  | 0=>λ_ _ _=>none
  | n+1=>Qmw fu Aa Ae Ab Ad Af Ac Ag (Qgr fu Aa Ae Ab Ad Af Ac Ag n)
def Qmm (fu:Nat) (Ai:List Spot→Int→Int→Option ((List Spot))) (Ak:List Box) (Ae:(List Shelf)) (Af:Int) (Ac:Int) (Ah:Int) (Ab:Layer) (Ag:List Spot→Int→Int→Option ((List Spot))) (Ad:List Spot) (Al:Int) (Aa:Int):Option ((List Spot)) :=
  bif (decide (Aa<(Ab.fP.length:Int))) then Qab (ix Ab.fP Aa) λAj=>Qab (ix Ae Aj) λAm=>Qgr fu Ag Ak Af Ac Al Aa Am fu Ad 0 0 else Ai Ad (w64 (Ac+Ab.fH)) (w64 (Ah+1))
def Qc9 (fu:Nat) (Ad:List Spot→Int→Int→Option ((List Spot))) (Ag:List Box) (Aa:(List Shelf)) (Ab:Int) (Af:Int) (Ac:Int) (Ae:Layer):Nat→List Spot→Int→Int→Option ((List Spot))
  | 0=>λ_ _ _=>none
  | n+1=>Qmm fu Ad Ag Aa Ab Af Ac Ae (Qc9 fu Ad Ag Aa Ab Af Ac Ae n)
def Qm8 (fu:Nat) (Am:List Spot→Int→Option ((List Spot))) (Ag:List Box) (Af:(List Shelf)) (Ai:(List Layer)) (Ad:(List Load)) (Aa:Int) (Aj:List Spot→Int→Int→Option ((List Spot))) (Ae:List Spot) (Al:Int) (Ab:Int):Option ((List Spot)) :=
  Qab (ix Ad Aa) λAc=>bif (decide (Ab<(Ac.fO.length:Int))) then Qab (ix Ad Aa) λAo=>Qab (ix Ac.fO Ab) λAh=>Qab (ix Ai Ah) λAk=>Qc9 fu Aj Ag Af Aa Al Ab Ak fu Ae 0 0 else Am Ae (w64 (Aa+1))
def Qb0 (fu:Nat) (Af:List Spot→Int→Option ((List Spot))) (Ae:List Box) (Aa:(List Shelf)) (Ac:(List Layer)) (Ad:(List Load)) (Ab:Int):Nat→List Spot→Int→Int→Option ((List Spot))
  | 0=>λ_ _ _=>none
  | n+1=>Qm8 fu Af Ae Aa Ac Ad Ab (Qb0 fu Af Ae Aa Ac Ad Ab n)
def Qmb (fu:Nat)  (Af:List Box) (Ad:(List Shelf)) (Ae:(List Layer)) (Ab:(List Load)) (Ag:List Spot→Int→Option ((List Spot))) (Ac:List Spot) (Aa:Int):Option ((List Spot)) :=
  bif (decide (Aa<(Ab.length:Int))) then Qb0 fu Ag Af Ad Ae Ab Aa fu Ac 0 0 else some (Ac)
def Qbg (fu:Nat)  (Ab:List Box) (Aa:(List Shelf)) (Ad:(List Layer)) (Ac:(List Load)):Nat→List Spot→Int→Option ((List Spot))
  | 0=>λ_ _=>none
  | n+1=>Qmb fu Ab Aa Ad Ac (Qbg fu Ab Aa Ad Ac n)
def Qle (fu:Nat) (p1:Pallet) (Aa:List Box):Option ((List Spot)) :=
  Qab (mk 32 (⟨(0:Int),(0:Int),(0:Int),(0:Int)⟩:Spot) (Aa.length:Int)) λAf=>Qab (Qll fu p1 Aa) λAe=>bif (!Ae) then some (([]:List Spot)) else Qab (Qqy fu p1 Aa) λAb=>Qab (Qn4 fu p1 Ab) λAc=>Qab (Qq0 fu p1 Ac) λAd=>Qbg fu Aa Ab Ac Ad fu Af 0
def Qkk (fu:Nat) (k3:Int→Int→Option (Int)) (Aa:Int) (Ab:Int):Option (Int) :=
  k3 Ab (w64 (Aa+1))
def Qm7 (fu:Nat)  (Ac:List Spot) (k3:Int→Int→Option (Int)) (Ab:Int) (Aa:Int):Option (Int) :=
  bif (decide (Aa<(Ac.length:Int))) then Qab (ix Ac Aa) λAd=>Qab (Qan fu Ad.fJ 0 999999) λAf=>bif Af then Qab (ix Ac Aa) λAg=>Qab (Qjr fu Ab (w64 (Ad.fJ+1))) λAe=>Qkk fu k3 Aa Ae else Qkk fu k3 Aa Ab else some (Ab)
def Qe6 (fu:Nat)  (Aa:List Spot):Nat→Int→Int→Option (Int)
  | 0=>λ_ _=>none
  | n+1=>Qm7 fu Aa (Qe6 fu Aa n)
def Qqu (fu:Nat) (Aa:List Spot):Option (Int) :=
  Qe6 fu Aa fu 0 0
def Ql1 (fu:Nat) (Ab:List Box→Int→Option (Plan×Bool)) (Aa:Int) (Ac:List Box):Option (Plan×Bool) :=
  Ab Ac (w64 (Aa+1))
def Qoa (fu:Nat) (Ag:List Spot→Int→Int→Option (Plan×Bool)) (Ae:Int) (Af:Int) (Ab:(List Spot)) (Ah:List Spot→Int→Option (Plan×Bool)) (Ad:List Spot) (Ac:Int):Option (Plan×Bool) :=
  bif (decide (Ac<(Ab.length:Int))) then Qab (ix Ab Ac) λAa=>Qab (Qc7 32 Ad (([(⟨w64 (Aa.fJ+Ae),Aa.fX,Aa.fY,Aa.fZ⟩:Spot)]:List Spot))) λAi=>Ah Ai (w64 (Ac+1)) else Qab (Qqu fu Ab) λAj=>Ag Ad (w64 (Ae+Aj)) (w64 (Af+1))
def Qgd (fu:Nat) (Ab:List Spot→Int→Int→Option (Plan×Bool)) (Ad:Int) (Aa:Int) (Ac:(List Spot)):Nat→List Spot→Int→Option (Plan×Bool)
  | 0=>λ_ _=>none
  | n+1=>Qoa fu Ab Ad Aa Ac (Qgd fu Ab Ad Aa Ac n)
def Qor (fu:Nat) (Ah:List Spot→Int→Int→Option (Plan×Bool)) (r1:Request) (Ac:(List Carton)) (Ai:List Spot) (Aj:Int) (Ad:Int) (Af:List Box→Int→Option (Plan×Bool)) (Ab:List Box) (Aa:Int):Option (Plan×Bool) :=
  bif (decide (Aa<(Ac.length:Int))) then Qab (ix Ac Aa) λAe=>bif (Ae.fk==Ad) then Qab (ix Ac Aa) λAm=>Qab (Qs9 fu r1 Ae) λAl=>Qab (Qc7 32 Ab (([Al]:List Box))) λAk=>Ql1 fu Af Aa Ak else Ql1 fu Af Aa Ab else Qab (Qle fu r1.fJ Ab) λAg=>Qgd fu Ah Aj Ad Ag fu Ai 0
def Qf2 (fu:Nat) (Ab:List Spot→Int→Int→Option (Plan×Bool)) (r1:Request) (Ae:(List Carton)) (Ac:List Spot) (Ad:Int) (Aa:Int):Nat→List Box→Int→Option (Plan×Bool)
  | 0=>λ_ _=>none
  | n+1=>Qor fu Ab r1 Ae Ac Ad Aa (Qf2 fu Ab r1 Ae Ac Ad Aa n)
def Qnx (fu:Nat)  (r1:Request) (Ac:(List Carton)) (Af:(List (List Int))) (Ad:List Spot→Int→Int→Option (Plan×Bool)) (Ab:List Spot) (Ae:Int) (Aa:Int):Option (Plan×Bool) :=
  bif (decide (Aa<(Af.length:Int))) then Qf2 fu Ad r1 Ac Ab Ae Aa fu (([]:List Box)) 0 else some ((⟨Ac,Ab⟩:Plan),true)
def Qbz (fu:Nat)  (r1:Request) (Ab:(List Carton)) (Aa:(List (List Int))):Nat→List Spot→Int→Int→Option (Plan×Bool)
  | 0=>λ_ _ _=>none
  | n+1=>Qnx fu r1 Ab Aa (Qbz fu r1 Ab Aa n)
def Qr5 (fu:Nat) (r1:Request):Option (Plan×Bool) :=
  Qab (Qd8 fu r1) λAb=>bif (Ab != 0) then some ((⟨[],[]⟩:Plan),false) else Qab (Qlv fu r1) λAc=>Qab (Qia fu r1) λAa=>Qbz fu r1 Ac Aa fu (([]:List Spot)) 0 0
def Qin (fu:Nat) (k4:Int→Option (Bool)) (Aa:Int)  : Option (Bool) :=
  k4 (w64 (Aa+1))
def Qi9 (fu:Nat)  (x1:Carton) (k4:Int→Option (Bool)) (Aa:Int):Option (Bool) :=
  bif (decide (Aa<(x1.fl.length:Int))) then Qab (ix x1.fl Aa) λAb=>Qab (Qan fu Ab 0 999) λAc=>bif (!Ac) then some (false) else bif (decide (Aa>0)) then Qab (ix x1.fl Aa) λAe=>Qab (ix x1.fl (w64 (Aa - 1))) λAd=>bif (decide (Ab≤Ad)) then some (false) else Qin fu k4 Aa else Qin fu k4 Aa else some (true)
def Qd3 (fu:Nat)  (x1:Carton):Nat→Int→Option (Bool)
  | 0=>λ_=>none
  | n+1=>Qi9 fu x1 (Qd3 fu x1 n)
def Qne (fu:Nat) (x1:Carton)  : Option (Bool) :=
  Qd3 fu x1 fu 0
def Ql3 (fu:Nat) (x1:Carton):Option (Bool) :=
  Qab (Qm1 fu x1.qQ) λAa=>bif (!Aa) then some (false) else Qab (Qan fu x1.fk 0 3) λAb=>bif (!Ab) then some (false) else bif (decide ((x1.fl.length:Int)>100)) then some (false) else Qne fu x1
def Qq9 (fu:Nat) (k4:Int→Option (Bool)) (Aa:Int)  : Option (Bool) :=
  k4 (w64 (Aa+1))
def Qnt (fu:Nat)  (x1:Plan) (k4:Int→Option (Bool)) (Ab:Int):Option (Bool) :=
  bif (decide (Ab<(x1.fE.length:Int))) then Qab (ix x1.ft Ab) λAa=>Qab (ix x1.fE Ab) λAe=>Qab (Ql3 fu Ae) λAh=>bif (!Ah) then some (false) else Qab (Qan fu Aa.fJ 0 2000) λAc=>bif (!Ac) then some (false) else Qab (Qan fu Aa.fX 0 2000) λAg=>bif (!Ag) then some (false) else Qab (Qan fu Aa.fY 0 2000) λAd=>bif (!Ad) then some (false) else Qab (Qan fu Aa.fZ 0 2000) λAf=>bif (!Af) then some (false) else Qq9 fu k4 Ab else some (true)
def Qgc (fu:Nat)  (x1:Plan):Nat→Int→Option (Bool)
  | 0=>λ_=>none
  | n+1=>Qnt fu x1 (Qgc fu x1 n)
def Qrd (fu:Nat) (x1:Plan)  : Option (Bool) :=
  Qgc fu x1 fu 0
def Qry (fu:Nat) (x1:Plan):Option (Bool) :=
  bif ((x1.fE.length:Int) != (x1.ft.length:Int)) then some (false) else bif (decide ((x1.fE.length:Int)>100)) then some (false) else Qrd fu x1
def Qmx (fu:Nat)  (Ac:List Int) (k1:ByteArray→Int→Option (ByteArray)) (Ab:ByteArray) (Aa:Int):Option (ByteArray) :=
  bif (decide (Aa<(Ac.length:Int))) then Qab (Qs5 Ab (⟨#[32]⟩:ByteArray)) λAf=>Qab (ix Ac Aa) λAe=>Qab (Qij fu Ae) λAd=>Qab (Qs5 Af Ad) λAg=>k1 Ag (w64 (Aa+1)) else some (Ab)
def Qeb (fu:Nat)  (Aa:List Int):Nat→ByteArray→Int→Option (ByteArray)
  | 0=>λ_ _=>none
  | n+1=>Qmx fu Aa (Qeb fu Aa n)
def Qqf (fu:Nat) (x1:Carton) (Aa:Spot):Option (ByteArray) :=
  Qab (Qc7 8 (([x1.qQ,x1.fk,Aa.fJ,Aa.fX,Aa.fY,Aa.fZ]:List Int)) x1.fl) λAb=>Qeb fu Ab fu (⟨#[99,97,114,116,111,110]⟩:ByteArray) 0
def Qk7 (fu:Nat)  (x1:Plan) (k1:ByteArray→Int→Option (ByteArray)) (Ab:ByteArray) (Aa:Int):Option (ByteArray) :=
  bif (decide (Aa<(x1.fE.length:Int))) then Qab (ix x1.fE Aa) λAc=>Qab (ix x1.ft Aa) λAg=>Qab (Qqf fu Ac Ag) λAf=>Qab (Qs5 Ab Af) λAd=>Qab (Qs5 Ad (⟨#[10]⟩:ByteArray)) λAe=>k1 Ae (w64 (Aa+1)) else some (Ab)
def Qei (fu:Nat)  (x1:Plan):Nat→ByteArray→Int→Option (ByteArray)
  | 0=>λ_ _=>none
  | n+1=>Qk7 fu x1 (Qei fu x1 n)
def Qns (fu:Nat) (x1:Plan):Option (ByteArray) :=
  Qab (Qry fu x1) λAa=>bif (!Aa) then some (⟨#[]⟩:ByteArray) else Qei fu x1 fu (⟨#[]⟩:ByteArray) 0
def Qud (fu:Nat) (Aa:ByteArray):Option (ByteArray×Int) :=
  Qab (Qqm fu Aa) λx2=>bif (x2 != 0) then some ((⟨#[]⟩:ByteArray),x2) else Qab (Qis fu Aa) λx7=>Qab (Qr5 fu x7.1) λAc=>Qab (Qns fu Ac.1) λAb=>some (Ab,0)
def Qln (fu:Nat) (Aa:Int):Option (ByteArray) :=
  Qab (Qan fu Aa 0 (w64 ((((([(⟨#[111,107]⟩:ByteArray),(⟨#[116,101,120,116]⟩:ByteArray),(⟨#[98,111,117,110,100,115]⟩:ByteArray),(⟨#[110,97,109,101,115]⟩:ByteArray),(⟨#[116,97,98,108,101]⟩:ByteArray),(⟨#[117,110,105,116]⟩:ByteArray),(⟨#[112,97,108,108,101,116]⟩:ByteArray)]:List ByteArray)).length:Int)) - 1))) λx7=>bif (!x7) then some (⟨#[]⟩:ByteArray) else Qab (ix (([(⟨#[111,107]⟩:ByteArray),(⟨#[116,101,120,116]⟩:ByteArray),(⟨#[98,111,117,110,100,115]⟩:ByteArray),(⟨#[110,97,109,101,115]⟩:ByteArray),(⟨#[116,97,98,108,101]⟩:ByteArray),(⟨#[117,110,105,116]⟩:ByteArray),(⟨#[112,97,108,108,101,116]⟩:ByteArray)]:List ByteArray)) Aa) λAb=>some (Ab)
def Qok (fu:Nat) (Aa:ByteArray):Option (ByteArray) :=
  Qab (Qud fu Aa) λx2=>bif (x2.2 != 0) then Qab (Qln fu x2.2) λx7=>Qab (Qs5 (⟨#[33,32]⟩:ByteArray) x7) λAb=>Qab (Qs5 Ab (⟨#[10]⟩:ByteArray)) λAc=>some (Ac) else some (x2.1)
def Qrq (fu:Nat) (Aa:(List Int)×Bool) (Ag:Int) (Ac:Int) (Ah:List Int):Option (Carton×Spot×Bool) :=
  Qab (ix Aa.1 2) λAb=>Qab (ix Aa.1 3) λAd=>Qab (ix Aa.1 4) λAe=>Qab (ix Aa.1 5) λAf=>Qab (Qjz fu ((⟨([(⟨Ag,Ac,Ah⟩:Carton)]:List Carton),([(⟨Ab,Ad,Ae,Af⟩:Spot)]:List Spot)⟩:Plan))) λAi=>bif (!Ai) then some ((⟨0,0,[]⟩:Carton),(⟨0,0,0,0⟩:Spot),false) else some ((⟨Ag,Ac,Ah⟩:Carton),(⟨Ab,Ad,Ae,Af⟩:Spot),true)
def Qra (fu:Nat) (Aa:(List Int)×Bool)  : Option (Carton×Spot×Bool) :=
  Qab (ix Aa.1 0) λAd=>Qab (ix Aa.1 1) λAc=>Qab (sls Aa.1 6 (Aa.1.length:Int)) λAb=>Qrq fu Aa Ad Ac Ab
def Qsc (fu:Nat) (Aa:ByteArray):Option (Carton×Spot×Bool) :=
  Qab (Qjq fu Aa 32) λx8=>Qab (Qbo fu Aa (⟨#[99,97,114,116,111,110]⟩:ByteArray) (w64 ((x8.length:Int) - 1))) λAb=>bif (!Ab.2) then some ((⟨0,0,[]⟩:Carton),(⟨0,0,0,0⟩:Spot),false) else bif (decide ((w64 ((x8.length:Int) - 1))<6)) then some ((⟨0,0,[]⟩:Carton),(⟨0,0,0,0⟩:Spot),false) else Qra fu Ab
def Qky (fu:Nat)  (Ac:List ByteArray) (k2:List Carton→List Spot→Int→Option (Plan×Bool)) (Ad:List Carton) (Ae:List Spot) (Aa:Int):Option (Plan×Bool) :=
  bif (decide (Aa<(Ac.length:Int))) then Qab (ix Ac Aa) λAg=>Qab (Qsc fu Ag) λAb=>bif (!Ab.2.2) then some ((⟨[],[]⟩:Plan),false) else Qab (Qc7 40 Ad [Ab.1]) λAh=>Qab (Qc7 32 Ae (([Ab.2.1]:List Spot))) λAf=>k2 Ah Af (w64 (Aa+1)) else some ((⟨Ad,Ae⟩:Plan),true)
def Qfu (fu:Nat)  (Aa:List ByteArray):Nat→List Carton→List Spot→Int→Option (Plan×Bool)
  | 0=>λ_ _ _=>none
  | n+1=>Qky fu Aa (Qfu fu Aa n)
def Qnz (fu:Nat) (x5:(List ByteArray))  : Option (Plan×Bool) :=
  Qab (sls x5 0 (w64 ((x5.length:Int) - 1))) λAa=>Qfu fu Aa fu (([]:List Carton)) (([]:List Spot)) 0
def Qo2 (fu:Nat) (Aa:ByteArray):Option (Plan×Bool) :=
  Qab (Qjq fu Aa 10) λx5=>Qab (ix x5 (w64 ((x5.length:Int) - 1))) λAb=>bif (!(Ab.toList==(⟨#[]⟩:ByteArray).toList)) then some ((⟨[],[]⟩:Plan),false) else bif (decide ((w64 ((x5.length:Int) - 1))>100)) then some ((⟨[],[]⟩:Plan),false) else Qnz fu x5
end Go.Proofs.YtndfoffokpdjeaaGreatDoor
