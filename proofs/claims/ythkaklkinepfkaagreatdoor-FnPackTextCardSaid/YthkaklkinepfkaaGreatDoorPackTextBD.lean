/- FnPackText: what the.. -/
import Derived.Test.YthkaklkinepfkaaGreatDoorS12
import Derived.Test.YthkaklkinepfkaaGreatDoorS15
set_option linter.unusedVariables false
namespace Go.Proofs.YthkaklkinepfkaaGreatDoor
open Go
def Qw9 (fu:Nat) (Aa:List U8):Option (Bool) :=
  some (decide ((Aa.length:Int)>1048576))
def Qst (fu:Nat) (k3:Int→Int→Option (Cur)) (Ad:List U8) (Ac:Int) (Aa:Int)  : Option (Cur) :=
  Qab (ix Ad Aa) λAb=>k3 (IntKind.wrap .i64 (((BitVec.ofInt (IntKind.bits .i64) (w64 ((w64 ((w64 (Ac*131))+(w64 Ab.n)))+7)) &&& BitVec.ofInt (IntKind.bits .i64) 1073741823).toNat:Nat):Int)) (w64 (Aa+1))
def Qp4 (fu:Nat)  (Aa:List U8) (k3:Int→Int→Option (Cur)) (Ac:Int) (Ab:Int):Option (Cur) :=
  bif (decide (Ab<(Aa.length:Int))) then bif (decide (Ab<4000)) then Qst fu k3 Aa Ac Ab else some (⟨Aa,0,Ac⟩:Cur) else some (⟨Aa,0,Ac⟩:Cur)
def Qg5 (fu:Nat)  (Aa:List U8):Nat→Int→Int→Option (Cur)
  | 0=>λ_ _=>none
  | n+1=>Qp4 fu Aa (Qg5 fu Aa n)
def Qs6 (fu:Nat) (Aa:List U8):Option (Cur) :=
  Qg5 fu Aa fu (w64 (26583+(Aa.length:Int))) 0
def Qho (fu:Nat) (c1:Cur):Option (Int×Cur) :=
  bif (decide (c1.fi<(c1.fb.length:Int))) then Qab (ix c1.fb c1.fi) λAa=>some (IntKind.wrap .i64 (((BitVec.ofInt (IntKind.bits .i64) (w64 ((IntKind.wrap .i64 (((BitVec.ofInt (IntKind.bits .i64) (IntKind.wrap .i64 (((BitVec.ofInt (IntKind.bits .i64) (Int.fdiv (w64 ((w64 (c1.fh*6364136223846793005))+1442695040888963407)) (2 ^ (min 33 (IntKind.bits .i64)))) ^^^ BitVec.ofInt (IntKind.bits .i64) (Int.fdiv (w64 ((w64 (c1.fh*6364136223846793005))+1442695040888963407)) (2 ^ (min 45 (IntKind.bits .i64))))).toNat:Nat):Int)) &&& BitVec.ofInt (IntKind.bits .i64) 255).toNat:Nat):Int))+(w64 Aa.n))) &&& BitVec.ofInt (IntKind.bits .i64) 255).toNat:Nat):Int),(⟨c1.fb,w64 (c1.fi+1),w64 ((w64 (c1.fh*6364136223846793005))+1442695040888963407)⟩:Cur)) else some (IntKind.wrap .i64 (((BitVec.ofInt (IntKind.bits .i64) (IntKind.wrap .i64 (((BitVec.ofInt (IntKind.bits .i64) (Int.fdiv (w64 ((w64 (c1.fh*6364136223846793005))+1442695040888963407)) (2 ^ (min 33 (IntKind.bits .i64)))) ^^^ BitVec.ofInt (IntKind.bits .i64) (Int.fdiv (w64 ((w64 (c1.fh*6364136223846793005))+1442695040888963407)) (2 ^ (min 45 (IntKind.bits .i64))))).toNat:Nat):Int)) &&& BitVec.ofInt (IntKind.bits .i64) 255).toNat:Nat):Int),(⟨c1.fb,c1.fi,w64 ((w64 (c1.fh*6364136223846793005))+1442695040888963407)⟩:Cur))
def Qal (fu:Nat) (c1:Cur) (n7:Int):Option (Int×Cur) :=
  bif (decide (n7≤0)) then some (0,c1) else bif (decide (n7≤256)) then Qab (Qho fu c1) λAb=>Qab (Jhx n7) λAg=>some (Int.tmod Ab.1 n7,(⟨c1.fb,Ab.2.fi,Ab.2.fh⟩:Cur)) else Qab (Qho fu c1) λAd=>Qab (Qho fu (⟨c1.fb,Ad.2.fi,Ad.2.fh⟩:Cur)) λAe=>Qab (Qho fu (⟨c1.fb,Ae.2.fi,Ae.2.fh⟩:Cur)) λAc=>Qab (Qho fu (⟨c1.fb,Ac.2.fi,Ac.2.fh⟩:Cur)) λAa=>Qab (Jhx n7) λAf=>some (Int.tmod (w64 ((w64 ((w64 ((w64 (Ad.1*16777216))+(w64 (Ae.1*65536))))+(w64 (Ac.1*256))))+Aa.1)) n7,(⟨c1.fb,Aa.2.fi,Aa.2.fh⟩:Cur))
def Qkj (fu:Nat) (c1:Cur) (n7:Int):Option (Bool×Cur) :=
  Qab (Qal fu c1 n7) λx9=>some (x9.1==0,(⟨c1.fb,x9.2.fi,x9.2.fh⟩:Cur))
def Qb4 (fu:Nat) (c1:Cur) (Ab:List Int):Option (Int×Cur) :=
  Qab (Qal fu c1 (Ab.length:Int)) λAa=>Qab (ix Ab Aa.1) λAc=>some (Ac,(⟨c1.fb,Aa.2.fi,Aa.2.fh⟩:Cur))
def Qib (fu:Nat) (Ab:Int→Int→List Pair→Int→Option (Request×Cur)) (Aa:Int) (Ad:Int) (Ac:Int) (Ae:List Pair):Option (Request×Cur) :=
  Ab Ad Ac Ae (w64 (Aa+1))
def Ql9 (fu:Nat) (k9:Int→Int→List Pair→Int→Option (Request×Cur)) (c1:Cur) (Ab:Int) (Af:Int→Int→List Pair→Int→Option (Request×Cur)) (Ag:Int) (Ae:Int) (Ad:List Pair) (Aa:Int):Option (Request×Cur) :=
  bif (decide (Aa≤Ab)) then bif (Ab==Aa) then Qab (Qc7 16 Ad (([(⟨Ab,Ab⟩:Pair)]:List Pair))) λAi=>Qib fu Af Aa Ag Ae Ai else Qab (Qkj fu (⟨c1.fb,Ag,Ae⟩:Cur) 2) λAc=>bif Ac.1 then Qab (Qc7 16 Ad (([(⟨Ab,Aa⟩:Pair),(⟨Aa,Ab⟩:Pair)]:List Pair))) λAh=>Qib fu Af Aa Ac.2.fi Ac.2.fh Ah else Qib fu Af Aa Ac.2.fi Ac.2.fh Ad else k9 Ag Ae Ad (w64 (Ab+1))
def Qex (fu:Nat) (k9:Int→Int→List Pair→Int→Option (Request×Cur)) (c1:Cur) (Aa:Int):Nat→Int→Int→List Pair→Int→Option (Request×Cur)
  | 0=>λ_ _ _ _=>none
  | n+1=>Ql9 fu k9 c1 Aa (Qex fu k9 c1 Aa n)
def Qj4 (fu:Nat) (Ad:Int→Int→List Item→Int→Int→Option (Request×Cur)) (Aa:Int) (Af:Int) (Ac:Int) (Ab:List Item) (Ae:Int):Option (Request×Cur) :=
  Ad Af Ac Ab Ae (w64 (Aa+1))
def Qhy (fu:Nat) (Af:Int→Int→List Item→Int→Int→Option (Request×Cur)) (Ac:List Item) (Ab:Int) (Ad:Int) (Ag:Int) (Ae:Int) (Aa:Item):Option (Request×Cur) :=
  bif (decide ((w64 (Ab+Aa.fF))≤12)) then Qab (Qc7 56 Ac (([Aa]:List Item))) λAh=>Qj4 fu Af Ad Ag Ae Ah (w64 (Ab+Aa.fF)) else Qj4 fu Af Ad Ag Ae Ac Ab
def Qpx (fu:Nat) (Ag:Int→Int→List Item→Int→Int→Option (Request×Cur)) (c1:Cur) (Ad:List Item) (Ae:Int) (Af:Int) (Ah:Int) (Ai:Int) (Aa:Item):Option (Request×Cur) :=
  Qab (Qkj fu (⟨c1.fb,Ah,Ai⟩:Cur) 3) λAb=>bif Ab.1 then Qab (Qal fu (⟨c1.fb,Ab.2.fi,Ab.2.fh⟩:Cur) 8) λAc=>Qhy fu Ag Ad Ae Af Ac.2.fi Ac.2.fh (⟨Aa.ft,5,5,w64 (4+Ac.1),Aa.fQ,Aa.fK,Aa.fF⟩:Item) else Qhy fu Ag Ad Ae Af Ab.2.fi Ab.2.fh Aa
def Qma (fu:Nat)  (c1:Cur) (Ao:Int×Cur) (Ar:Int×Cur) (As:Int×Cur) (Av:Int×Cur) (Am:Int×Cur) (Ah:Int×Cur) (Au:List Pair) (Ap:List Typ) (Aq:Int×Cur) (Al:Int→Int→List Item→Int→Int→Option (Request×Cur)) (Aj:Int) (Ai:Int) (Ak:List Item) (At:Int) (Aa:Int):Option (Request×Cur) :=
  bif (decide (Aa<Aq.1)) then Qab (Qal fu (⟨c1.fb,Aj,Ai⟩:Cur) 10) λAf=>Qab (Qal fu (⟨c1.fb,Af.2.fi,Af.2.fh⟩:Cur) 10) λAc=>Qab (Qal fu (⟨c1.fb,Ac.2.fi,Ac.2.fh⟩:Cur) 10) λAg=>Qab (Qal fu (⟨c1.fb,Ag.2.fi,Ag.2.fh⟩:Cur) 60) λAd=>Qab (Qal fu (⟨c1.fb,Ad.2.fi,Ad.2.fh⟩:Cur) (w64 (1+Ah.1))) λAb=>Qab (Qal fu (⟨c1.fb,Ab.2.fi,Ab.2.fh⟩:Cur) 4) λAe=>Qpx fu Al c1 Ak At Aa Ae.2.fi Ae.2.fh (⟨w64 (3*Aa),w64 (1+Af.1),w64 (1+Ac.1),w64 (1+Ag.1),w64 (1+Ad.1),Ab.1,w64 (1+Ae.1)⟩:Item) else some ((⟨Ao.1,(⟨Ar.1,As.1,Av.1,Am.1⟩:Pallet),w64 (1+Ah.1),Au,Ap,7,Ak⟩:Request),(⟨c1.fb,Aj,Ai⟩:Cur))
def Qcr (fu:Nat)  (c1:Cur) (Ab:Int×Cur) (Ae:Int×Cur) (Aa:Int×Cur) (Ai:Int×Cur) (Af:Int×Cur) (Ag:Int×Cur) (Ah:List Pair) (Ac:List Typ) (Ad:Int×Cur):Nat→Int→Int→List Item→Int→Int→Option (Request×Cur)
  | 0=>λ_ _ _ _ _=>none
  | n+1=>Qma fu c1 Ab Ae Aa Ai Af Ag Ah Ac Ad (Qcr fu c1 Ab Ae Aa Ai Af Ag Ah Ac Ad n)
def Qm9 (fu:Nat)  (c1:Cur) (Ao:Int×Cur) (Aq:Int×Cur) (Ar:Int×Cur) (Av:Int×Cur) (Al:Int×Cur) (Am:Int×Cur) (Au:List Pair) (Ap:Int×Cur) (As:Int→Int→List Typ→Int→Option (Request×Cur)) (Aj:Int) (Ak:Int) (Ai:List Typ) (Ab:Int):Option (Request×Cur) :=
  bif (decide (Ab<Ap.1)) then Qab (Qal fu (⟨c1.fb,Aj,Ak⟩:Cur) 9) λAe=>Qab (Qal fu (⟨c1.fb,Ae.2.fi,Ae.2.fh⟩:Cur) 8) λAg=>Qab (Qal fu (⟨c1.fb,Ag.2.fi,Ag.2.fh⟩:Cur) 9) λAa=>Qab (Qal fu (⟨c1.fb,Aa.2.fi,Aa.2.fh⟩:Cur) 5) λAf=>Qab (Qal fu (⟨c1.fb,Af.2.fi,Af.2.fh⟩:Cur) 90) λAc=>Qab (Qal fu (⟨c1.fb,Ac.2.fi,Ac.2.fh⟩:Cur) 20) λAh=>Qab (Qc7 56 Ai (([(⟨w64 (10+Ab),w64 (4+Ae.1),w64 (3+Ag.1),w64 (3+Aa.1),Af.1,w64 (20+Ac.1),w64 (1+Ah.1)⟩:Typ)]:List Typ))) λAt=>As Ah.2.fi Ah.2.fh At (w64 (Ab+1)) else Qab (Qal fu (⟨c1.fb,Aj,Ak⟩:Cur) 6) λAd=>Qcr fu c1 Ao Aq Ar Av Al Am Au Ai Ad fu Ad.2.fi Ad.2.fh (([]:List Item)) 0 0
def Qgv (fu:Nat)  (c1:Cur) (Ab:Int×Cur) (Ad:Int×Cur) (Aa:Int×Cur) (Ah:Int×Cur) (Ae:Int×Cur) (Af:Int×Cur) (Ag:List Pair) (Ac:Int×Cur):Nat→Int→Int→List Typ→Int→Option (Request×Cur)
  | 0=>λ_ _ _ _=>none
  | n+1=>Qm9 fu c1 Ab Ad Aa Ah Ae Af Ag Ac (Qgv fu c1 Ab Ad Aa Ah Ae Af Ag Ac n)
def Qp6 (fu:Nat) (c1:Cur) (Ad:Int×Cur) (Af:Int×Cur) (Ab:Int×Cur) (Aj:Int×Cur) (Ag:Int×Cur) (Ah:Int×Cur) (Ai:List Pair) (Ak:Int) (Ae:Int) (Ac:List Typ):Option (Request×Cur) :=
  Qab (Qal fu (⟨c1.fb,Ak,Ae⟩:Cur) 5) λAa=>Qgv fu c1 Ad Af Ab Aj Ag Ah Ai Aa fu Aa.2.fi Aa.2.fh Ac 0
def Qnb (fu:Nat)  (c1:Cur) (Aj:Int×Cur) (Al:Int×Cur) (Ai:Int×Cur) (Ao:Int×Cur) (Am:Int×Cur) (Ag:Int×Cur) (k9:Int→Int→List Pair→Int→Option (Request×Cur)) (Ad:Int) (Ae:Int) (Ah:List Pair) (Af:Int):Option (Request×Cur) :=
  bif (decide (Af<(w64 (1+Ag.1)))) then Qex fu k9 c1 Af fu Ad Ae Ah 0 else Qab (Qal fu (⟨c1.fb,Ad,Ae⟩:Cur) 8) λAc=>Qab (Qb4 fu (⟨c1.fb,Ac.2.fi,Ac.2.fh⟩:Cur) (([60,100,140]:List Int))) λAb=>Qab (Qb4 fu (⟨c1.fb,Ab.2.fi,Ab.2.fh⟩:Cur) (([9,20]:List Int))) λAa=>Qab (Qc7 56 (([]:List Typ)) (([(⟨7,12,10,11,Ac.1,Ab.1,Aa.1⟩:Typ)]:List Typ))) λAk=>Qp6 fu c1 Aj Al Ai Ao Am Ag Ah Aa.2.fi Aa.2.fh Ak
def Qdj (fu:Nat)  (c1:Cur) (Ab:Int×Cur) (Ac:Int×Cur) (Aa:Int×Cur) (Af:Int×Cur) (Ad:Int×Cur) (Ae:Int×Cur):Nat→Int→Int→List Pair→Int→Option (Request×Cur)
  | 0=>λ_ _ _ _=>none
  | n+1=>Qnb fu c1 Ab Ac Aa Af Ad Ae (Qdj fu c1 Ab Ac Aa Af Ad Ae n)
def Qlh (fu:Nat) (c1:Cur):Option (Request×Cur) :=
  Qab (Qal fu c1 2) λAb=>Qab (Qb4 fu (⟨c1.fb,Ab.2.fi,Ab.2.fh⟩:Cur) (([20,30,37]:List Int))) λAc=>Qab (Qb4 fu (⟨c1.fb,Ac.2.fi,Ac.2.fh⟩:Cur) (([20,25,40]:List Int))) λAa=>Qab (Qb4 fu (⟨c1.fb,Aa.2.fi,Aa.2.fh⟩:Cur) (([15,24,50]:List Int))) λAf=>Qab (Qb4 fu (⟨c1.fb,Af.2.fi,Af.2.fh⟩:Cur) (([150,400,5000]:List Int))) λAd=>Qab (Qal fu (⟨c1.fb,Ad.2.fi,Ad.2.fh⟩:Cur) 4) λAe=>Qdj fu c1 Ab Ac Aa Af Ad Ae fu Ae.2.fi Ae.2.fh (([]:List Pair)) 0
def Qa8 (fu:Nat) (c1:Cur) (Aa:Request×Cur) (Ah:Int) (Aj:Int) (Ag:Int) (Ac:Int) (Ae:List Pair) (Ai:List Typ) (Af:Int) (Ab:List Item) (Ak:Int) (Ad:Int):Option (Request×Cur) :=
  some ((⟨Ah,(⟨Aj,Aa.1.fJ.fD,Aa.1.fJ.fH,Ag⟩:Pallet),Ac,Ae,Ai,Af,Ab⟩:Request),(⟨c1.fb,Ak,Ad⟩:Cur))
def Qsc (fu:Nat) (c1:Cur):Option (Request×Cur) :=
  Qab (Qlh fu c1) λAa=>Qab (Qb4 fu (⟨c1.fb,Aa.2.fi,Aa.2.fh⟩:Cur) (([(-1),0,2001,100001,1000,9223372036854775807]:List Int))) λAc=>Qab (Qal fu (⟨c1.fb,Ac.2.fi,Ac.2.fh⟩:Cur) 20) λAb=>bif (Ab.1==0) then Qab (Qb4 fu (⟨c1.fb,Ab.2.fi,Ab.2.fh⟩:Cur) (([(-1),2]:List Int))) λAe=>Qa8 fu c1 Aa Ae.1 Aa.1.fJ.fW Aa.1.fJ.fQ Aa.1.fG Aa.1.fR Aa.1.fU Aa.1.fT Aa.1.fV Ae.2.fi Ae.2.fh else bif (Ab.1==1) then Qa8 fu c1 Aa Aa.1.f0 Ac.1 Aa.1.fJ.fQ Aa.1.fG Aa.1.fR Aa.1.fU Aa.1.fT Aa.1.fV Ab.2.fi Ab.2.fh else bif (Ab.1==2) then Qa8 fu c1 Aa Aa.1.f0 Aa.1.fJ.fW Ac.1 Aa.1.fG Aa.1.fR Aa.1.fU Aa.1.fT Aa.1.fV Ab.2.fi Ab.2.fh else bif (Ab.1==3) then Qab (Qb4 fu (⟨c1.fb,Ab.2.fi,Ab.2.fh⟩:Cur) (([0,5,1]:List Int))) λAf=>Qa8 fu c1 Aa Aa.1.f0 Aa.1.fJ.fW Aa.1.fJ.fQ Af.1 Aa.1.fR Aa.1.fU Aa.1.fT Aa.1.fV Af.2.fi Af.2.fh else bif (Ab.1==4) then Qab (Qal fu (⟨c1.fb,Ab.2.fi,Ab.2.fh⟩:Cur) 6) λAg=>Qab (Qal fu (⟨c1.fb,Ag.2.fi,Ag.2.fh⟩:Cur) 4) λAk=>Qab (Qc7 16 Aa.1.fR (([(⟨w64 (Ag.1 - 1),Ak.1⟩:Pair)]:List Pair))) λAr=>Qa8 fu c1 Aa Aa.1.f0 Aa.1.fJ.fW Aa.1.fJ.fQ Aa.1.fG Ar Aa.1.fU Aa.1.fT Aa.1.fV Ak.2.fi Ak.2.fh else bif (Ab.1==5) then Qab (ix Aa.1.fU 0) λAo=>Qa8 fu c1 Aa Aa.1.f0 Aa.1.fJ.fW Aa.1.fJ.fQ Aa.1.fG Aa.1.fR (Qi0 Aa.1.fU 0 ({ Ao with fH:=Ac.1 })) Aa.1.fT Aa.1.fV Ab.2.fi Ab.2.fh else bif (Ab.1==6) then Qab (Qal fu (⟨c1.fb,Ab.2.fi,Ab.2.fh⟩:Cur) (Aa.1.fU.length:Int)) λAd=>Qab (ix Aa.1.fU Ad.1) λAl=>Qa8 fu c1 Aa Aa.1.f0 Aa.1.fJ.fW Aa.1.fJ.fQ Aa.1.fG Aa.1.fR (Qi0 Aa.1.fU Ad.1 ({ Al with fQ:=Ac.1 })) Aa.1.fT Aa.1.fV Ad.2.fi Ad.2.fh else bif (Ab.1==7) then Qab (Qb4 fu (⟨c1.fb,Ab.2.fi,Ab.2.fh⟩:Cur) (([8,(-1),1000]:List Int))) λAi=>Qa8 fu c1 Aa Aa.1.f0 Aa.1.fJ.fW Aa.1.fJ.fQ Aa.1.fG Aa.1.fR Aa.1.fU Ai.1 Aa.1.fV Ai.2.fi Ai.2.fh else bif (Ab.1==8) then Qab (Qal fu (⟨c1.fb,Ab.2.fi,Ab.2.fh⟩:Cur) 5) λAj=>Qab (Qal fu (⟨c1.fb,Aj.2.fi,Aj.2.fh⟩:Cur) 8) λAh=>Qab (Qc7 56 Aa.1.fV (([(⟨3,1,2,3,4,Aj.1,Ah.1⟩:Item)]:List Item))) λAp=>Qa8 fu c1 Aa Aa.1.f0 Aa.1.fJ.fW Aa.1.fJ.fQ Aa.1.fG Aa.1.fR Aa.1.fU Aa.1.fT Ap Ah.2.fi Ah.2.fh else bif (Ab.1==9) then bif (decide ((Aa.1.fV.length:Int)>0)) then Qab (ix Aa.1.fV 0) λAq=>Qa8 fu c1 Aa Aa.1.f0 Aa.1.fJ.fW Aa.1.fJ.fQ Aa.1.fG Aa.1.fR Aa.1.fU Aa.1.fT (Qi0 Aa.1.fV 0 ({ Aq with fD:=Ac.1 })) Ab.2.fi Ab.2.fh else Qa8 fu c1 Aa Aa.1.f0 Aa.1.fJ.fW Aa.1.fJ.fQ Aa.1.fG Aa.1.fR Aa.1.fU Aa.1.fT Aa.1.fV Ab.2.fi Ab.2.fh else bif (Ab.1==10) then bif (decide ((Aa.1.fR.length:Int)>0)) then Qab (sls Aa.1.fR 1 (Aa.1.fR.length:Int)) λAm=>Qa8 fu c1 Aa Aa.1.f0 Aa.1.fJ.fW Aa.1.fJ.fQ Aa.1.fG Am Aa.1.fU Aa.1.fT Aa.1.fV Ab.2.fi Ab.2.fh else Qa8 fu c1 Aa Aa.1.f0 Aa.1.fJ.fW Aa.1.fJ.fQ Aa.1.fG Aa.1.fR Aa.1.fU Aa.1.fT Aa.1.fV Ab.2.fi Ab.2.fh else bif (Ab.1==11) then Qab (ix Aa.1.fU 0) λAs=>Qab (Qc7 56 Aa.1.fU (([As]:List Typ))) λAt=>Qa8 fu c1 Aa Aa.1.f0 Aa.1.fJ.fW Aa.1.fJ.fQ Aa.1.fG Aa.1.fR At Aa.1.fT Aa.1.fV Ab.2.fi Ab.2.fh else bif (Ab.1==12) then Qa8 fu c1 Aa Aa.1.f0 Aa.1.fJ.fW Aa.1.fJ.fQ Aa.1.fG Aa.1.fR (([]:List Typ)) Aa.1.fT Aa.1.fV Ab.2.fi Ab.2.fh else Qa8 fu c1 Aa Aa.1.f0 Aa.1.fJ.fW Aa.1.fJ.fQ Aa.1.fG Aa.1.fR Aa.1.fU Aa.1.fT Aa.1.fV Ab.2.fi Ab.2.fh
def Qan (fu:Nat) (x1:Int) (Ab:Int) (Aa:Int):Option (Bool) :=
  bif (decide (x1≥Ab)) then some (decide (x1≤Aa)) else some (false)
def Qns (fu:Nat)  (r1:Request) (k3:List ByteArray→List (List Int)→Int→Option ((List ByteArray)×(List (List Int)))) (Ad:List ByteArray) (Ac:List (List Int)) (Ab:Int):Option ((List ByteArray)×(List (List Int))) :=
  bif (decide (Ab<(r1.fV.length:Int))) then Qab (ix r1.fV Ab) λAa=>Qab (Qc7 16 Ad (([(⟨#[105,116,101,109]⟩:ByteArray)]:List ByteArray))) λAe=>Qab (Qc7 24 Ac [([Aa.ft,Aa.fW,Aa.fH,Aa.fD,Aa.fQ,Aa.fK,Aa.fF]:List Int)]) λAf=>k3 Ae Af (w64 (Ab+1)) else some (Ad,Ac)
def Qf6 (fu:Nat)  (r1:Request):Nat→List ByteArray→List (List Int)→Int→Option ((List ByteArray)×(List (List Int)))
  | 0=>λ_ _ _=>none
  | n+1=>Qns fu r1 (Qf6 fu r1 n)
def Qo0 (fu:Nat)  (r1:Request) (k2:List ByteArray→List (List Int)→Int→Option ((List ByteArray)×(List (List Int)))) (Ac:List ByteArray) (Ad:List (List Int)) (Ab:Int):Option ((List ByteArray)×(List (List Int))) :=
  bif (decide (Ab<(r1.fU.length:Int))) then Qab (ix r1.fU Ab) λAa=>Qab (Qc7 16 Ac (([(⟨#[116,121,112,101]⟩:ByteArray)]:List ByteArray))) λAf=>Qab (Qc7 24 Ad [([Aa.ft,Aa.fW,Aa.fH,Aa.fD,Aa.qQ,Aa.fQ,Aa.fl]:List Int)]) λAe=>k2 Af Ae (w64 (Ab+1)) else Qab (Qc7 16 Ac (([(⟨#[109,97,115,116,101,114]⟩:ByteArray)]:List ByteArray))) λAg=>Qab (Qc7 24 Ad [([r1.fT]:List Int)]) λAh=>Qf6 fu r1 fu Ag Ah 0
def Qf3 (fu:Nat)  (r1:Request):Nat→List ByteArray→List (List Int)→Int→Option ((List ByteArray)×(List (List Int)))
  | 0=>λ_ _ _=>none
  | n+1=>Qo0 fu r1 (Qf3 fu r1 n)
def Qoc (fu:Nat)  (r1:Request) (k1:List ByteArray→List (List Int)→Int→Option ((List ByteArray)×(List (List Int)))) (Ad:List ByteArray) (Ab:List (List Int)) (Aa:Int):Option ((List ByteArray)×(List (List Int))) :=
  bif (decide (Aa<(r1.fR.length:Int))) then Qab (Qc7 16 Ad (([(⟨#[119,105,116,104]⟩:ByteArray)]:List ByteArray))) λAe=>Qab (ix r1.fR Aa) λAc=>Qab (ix r1.fR Aa) λAg=>Qab (Qc7 24 Ab [([Ac.fA,Ac.fB]:List Int)]) λAf=>k1 Ae Af (w64 (Aa+1)) else Qf3 fu r1 fu Ad Ab 0
def Qhl (fu:Nat)  (r1:Request):Nat→List ByteArray→List (List Int)→Int→Option ((List ByteArray)×(List (List Int)))
  | 0=>λ_ _ _=>none
  | n+1=>Qoc fu r1 (Qhl fu r1 n)
def Qsf (fu:Nat) (r1:Request):Option ((List ByteArray)×(List (List Int))) :=
  Qhl fu r1 fu (([(⟨#[112,97,108,108,101,116]⟩:ByteArray),(⟨#[99,108,97,115,115,101,115]⟩:ByteArray)]:List ByteArray)) (([([r1.fJ.fW,r1.fJ.fD,r1.fJ.fH,r1.fJ.fQ]:List Int),([r1.fG]:List Int)]:List (List Int))) 0
def Ql1 (fu:Nat) (k3:Int→ByteArray→Option (ByteArray)) (Ad:Int) (Ab:ByteArray) (Ae:Int):Option (ByteArray) :=
  Qab (Q8o (([(⟨w8 (w64 (48+Ae))⟩:U8)]:List U8))) λAa=>Qab (Qs5 Aa Ab) λAc=>k3 (w64 (Int.tdiv Ad 10)) Ac
def Qn8 (fu:Nat)  (n1:Int) (k3:Int→ByteArray→Option (ByteArray)) (Aa:Int) (Ab:ByteArray):Option (ByteArray) :=
  bif (Aa != 0) then bif (decide ((Int.tmod Aa 10)<0)) then Ql1 fu k3 Aa Ab (w64 (0 - (Int.tmod Aa 10))) else Ql1 fu k3 Aa Ab (Int.tmod Aa 10) else bif (decide (n1<0)) then Qab (Qs5 (⟨#[45]⟩:ByteArray) Ab) λAc=>some (Ac) else some (Ab)
def Qf1 (fu:Nat)  (n1:Int):Nat→Int→ByteArray→Option (ByteArray)
  | 0=>λ_ _=>none
  | n+1=>Qn8 fu n1 (Qf1 fu n1 n)
def Qil (fu:Nat) (n1:Int):Option (ByteArray) :=
  bif (n1==0) then some (⟨#[48]⟩:ByteArray) else Qf1 fu n1 fu n1 (⟨#[]⟩:ByteArray)
def Qp0 (fu:Nat)  (Ab:List Int) (k1:ByteArray→Int→Option (ByteArray×Bool)) (Ac:ByteArray) (Aa:Int):Option (ByteArray×Bool) :=
  bif (decide (Aa<(Ab.length:Int))) then Qab (ix Ab Aa) λAd=>Qab (Qan fu Ad 0 999999) λAg=>bif (!Ag) then some ((⟨#[]⟩:ByteArray),false) else Qab (Qs5 Ac (⟨#[32]⟩:ByteArray)) λAf=>Qab (ix Ab Aa) λAj=>Qab (Qil fu Ad) λAe=>Qab (Qs5 Af Ae) λAi=>k1 Ai (w64 (Aa+1)) else Qab (Qs5 Ac (⟨#[10]⟩:ByteArray)) λAh=>some (Ah,true)
def Qh4 (fu:Nat)  (Aa:List Int):Nat→ByteArray→Int→Option (ByteArray×Bool)
  | 0=>λ_ _=>none
  | n+1=>Qp0 fu Aa (Qh4 fu Aa n)
def Qte (fu:Nat) (Ab:ByteArray) (Aa:List Int):Option (ByteArray×Bool) :=
  Qh4 fu Aa fu Ab 0
def Qjn (fu:Nat)  (Ab:(List ByteArray)×(List (List Int))) (k1:ByteArray→Int→Option (ByteArray)) (Ac:ByteArray) (Aa:Int):Option (ByteArray) :=
  bif (decide (Aa<(Ab.1.length:Int))) then Qab (ix Ab.1 Aa) λAg=>Qab (ix Ab.2 Aa) λAf=>Qab (Qte fu Ag Af) λAd=>bif (!Ad.2) then some (⟨#[]⟩:ByteArray) else Qab (Qs5 Ac Ad.1) λAe=>k1 Ae (w64 (Aa+1)) else some (Ac)
def Qfh (fu:Nat)  (Aa:(List ByteArray)×(List (List Int))):Nat→ByteArray→Int→Option (ByteArray)
  | 0=>λ_ _=>none
  | n+1=>Qjn fu Aa (Qfh fu Aa n)
def Qiq (fu:Nat) (r1:Request):Option (ByteArray) :=
  Qab (Qan fu r1.f0 0 1) λAa=>bif (!Aa) then some (⟨#[]⟩:ByteArray) else Qab (ix (([(⟨#[119,97,121,32,102,105,114,115,116,10]⟩:ByteArray),(⟨#[119,97,121,32,110,101,120,116,10]⟩:ByteArray)]:List ByteArray)) r1.f0) λAc=>Qab (Qsf fu r1) λAb=>Qfh fu Ab fu Ac 0
def Qpb (fu:Nat) (c1:Cur) (Ab:List ByteArray):Option (ByteArray×Cur) :=
  Qab (Qal fu c1 (Ab.length:Int)) λAa=>Qab (ix Ab Aa.1) λAc=>some (Ac,(⟨c1.fb,Aa.2.fi,Aa.2.fh⟩:Cur))
def Qr0 (fu:Nat) (c1:Cur):Option (ByteArray×Cur) :=
  Qab (Qsc fu c1) λx8=>Qab (Qiq fu x8.1) λAf=>Qab (Ji6 Af) λAb=>Qab (Qal fu (⟨c1.fb,x8.2.fi,x8.2.fh⟩:Cur) (w64 ((Ab.length:Int)+1))) λAc=>Qab (Qal fu (⟨c1.fb,Ac.2.fi,Ac.2.fh⟩:Cur) 10) λAa=>bif (Aa.1==0) then Qab (sls Ab 0 Ac.1) λAk=>Qab (Q8o Ak) λAg=>some (Ag,(⟨c1.fb,Aa.2.fi,Aa.2.fh⟩:Cur)) else bif (Aa.1==1) then Qab (sls Ab 0 Ac.1) λAo=>Qab (Q8o Ao) λAt=>Qab (sls Ab Ac.1 (Ab.length:Int)) λAm=>Qab (Q8o Am) λAq=>Qab (Qpb fu (⟨c1.fb,Aa.2.fi,Aa.2.fh⟩:Cur) (([(⟨#[120]⟩:ByteArray),(⟨#[32]⟩:ByteArray),(⟨#[48]⟩:ByteArray),(⟨#[10]⟩:ByteArray),(⟨#[105,116,101,109,32,49,32,49,32,49,32,49,32,49,32,48,32,49,10]⟩:ByteArray),(⟨#[57,57,57,57,57,57,57]⟩:ByteArray)]:List ByteArray))) λAd=>Qab (Qs5 At Ad.1) λAj=>Qab (Qs5 Aj Aq) λAh=>some (Ah,(⟨c1.fb,Ad.2.fi,Ad.2.fh⟩:Cur)) else bif (Aa.1==2) then bif (decide (Ac.1<(Ab.length:Int))) then Qab (sls Ab 0 Ac.1) λAr=>Qab (Q8o Ar) λAl=>Qab (sls Ab (w64 (Ac.1+1)) (Ab.length:Int)) λAi=>Qab (Q8o Ai) λAp=>Qab (Qs5 Al Ap) λAs=>some (As,(⟨c1.fb,Aa.2.fi,Aa.2.fh⟩:Cur)) else some (Af,(⟨c1.fb,Aa.2.fi,Aa.2.fh⟩:Cur)) else bif (Aa.1==3) then Qab (Qpb fu (⟨c1.fb,Aa.2.fi,Aa.2.fh⟩:Cur) (([(⟨#[]⟩:ByteArray),(⟨#[119,97,121,32,102,105,114,115,116,10]⟩:ByteArray),(⟨#[119,97,121,10]⟩:ByteArray),(⟨#[119,97,121,32,110,101,120,116,10,112,97,108,108,101,116,32,49,32,49,32,49,32,49,10,99,108,97,115,115,101,115,32,49,10,109,97,115,116,101,114,32,49,10]⟩:ByteArray),(⟨#[119,97,121,32,110,101,120,116,10,112,97,108,108,101,116,32,49,32,49,32,49,32,48,49,10]⟩:ByteArray),(⟨#[119,97,121,32,102,105,114,115,116,10,112,97,108,108,101,116,32,49,32,49,32,49,32,49,10,99,108,97,115,115,101,115,32,49,10,109,97,115,116,101,114,32,49]⟩:ByteArray)]:List ByteArray))) λAe=>some (Ae.1,(⟨c1.fb,Ae.2.fi,Ae.2.fh⟩:Cur)) else some (Af,(⟨c1.fb,Aa.2.fi,Aa.2.fh⟩:Cur))
def Qdw (fu:Nat) (x1:Int):Option (Bool) :=
  Qab (Qan fu x1 1 2000) λx2=>some (x2)
def Qg8 (fu:Nat) (x1:Pallet):Option (Bool) :=
  Qab (Qdw fu x1.fW) λx5=>bif x5 then Qab (Qdw fu x1.fD) λAa=>bif Aa then Qab (Qdw fu x1.fH) λAc=>bif Ac then Qab (Qan fu x1.fQ 1 100000) λAb=>some (Ab) else some (false) else some (false) else some (false)
def Qme (fu:Nat) (x1:Int):Option (Bool) :=
  Qab (Qan fu x1 0 999) λx2=>some (x2)
def Qsa (fu:Nat) (x1:Typ):Option (Bool) :=
  Qab (Qme fu x1.ft) λx5=>bif x5 then Qab (Qdw fu x1.fW) λAb=>bif Ab then Qab (Qdw fu x1.fH) λAf=>bif Af then Qab (Qdw fu x1.fD) λAe=>bif Ae then Qab (Qan fu x1.qQ 0 100000) λAd=>bif Ad then Qab (Qan fu x1.fQ 1 100000) λAa=>bif Aa then Qab (Qan fu x1.fl 0 100000) λAc=>some (Ac) else some (false) else some (false) else some (false) else some (false) else some (false) else some (false)
def Qry (fu:Nat) (x1:Item):Option (Bool) :=
  Qab (Qme fu x1.ft) λx5=>bif x5 then Qab (Qdw fu x1.fW) λAb=>bif Ab then Qab (Qdw fu x1.fH) λAf=>bif Af then Qab (Qdw fu x1.fD) λAe=>bif Ae then Qab (Qan fu x1.fQ 1 100000) λAd=>bif Ad then Qab (Qan fu x1.fK 0 3) λAa=>bif Aa then Qab (Qan fu x1.fF 1 6) λAc=>some (Ac) else some (false) else some (false) else some (false) else some (false) else some (false) else some (false)
def Qos (fu:Nat) (k4:Int→Option (Bool)) (Aa:Int)  : Option (Bool) :=
  k4 (w64 (Aa+1))
def Qk1 (fu:Nat)  (r1:Request) (k7:Int→Int→Option (Bool)) (Ac:Int) (Aa:Int):Option (Bool) :=
  bif (decide (Aa<(r1.fV.length:Int))) then Qab (ix r1.fV Aa) λAb=>Qab (Qry fu Ab) λAd=>bif (!Ad) then some (false) else Qab (ix r1.fV Aa) λAe=>k7 (w64 (Ac+Ab.fF)) (w64 (Aa+1)) else some (decide (Ac≤12))
def Qdp (fu:Nat)  (r1:Request):Nat→Int→Int→Option (Bool)
  | 0=>λ_ _=>none
  | n+1=>Qk1 fu r1 (Qdp fu r1 n)
def Qky (fu:Nat)  (r1:Request) (k6:Int→Option (Bool)) (Aa:Int):Option (Bool) :=
  bif (decide (Aa<(r1.fU.length:Int))) then Qab (ix r1.fU Aa) λAb=>Qab (Qsa fu Ab) λAc=>bif (!Ac) then some (false) else k6 (w64 (Aa+1)) else Qdp fu r1 fu 0 0
def Qds (fu:Nat)  (r1:Request):Nat→Int→Option (Bool)
  | 0=>λ_=>none
  | n+1=>Qky fu r1 (Qds fu r1 n)
def Qk7 (fu:Nat)  (r1:Request) (k4:Int→Option (Bool)) (Aa:Int):Option (Bool) :=
  bif (decide (Aa<(r1.fR.length:Int))) then Qab (ix r1.fR Aa) λAb=>Qab (Qan fu Ab.fA 0 3) λAd=>bif (!Ad) then some (false) else Qab (ix r1.fR Aa) λAe=>Qab (Qan fu Ab.fB 0 3) λAc=>bif (!Ac) then some (false) else Qos fu k4 Aa else Qds fu r1 fu 0
def Qdq (fu:Nat)  (r1:Request):Nat→Int→Option (Bool)
  | 0=>λ_=>none
  | n+1=>Qk7 fu r1 (Qdq fu r1 n)
def Qnr (fu:Nat) (r1:Request)  : Option (Bool) :=
  Qdq fu r1 fu 0
def Qny (fu:Nat) (r1:Request):Option (Bool) :=
  Qab (Qan fu r1.f0 0 1) λAb=>bif (!Ab) then some (false) else Qab (Qg8 fu r1.fJ) λAc=>bif (!Ac) then some (false) else Qab (Qan fu r1.fG 1 4) λAe=>bif (!Ae) then some (false) else bif (decide ((r1.fR.length:Int)>16)) then some (false) else Qab (Qan fu (r1.fU.length:Int) 1 5) λAd=>bif (!Ad) then some (false) else Qab (Qme fu r1.fT) λAa=>bif (!Aa) then some (false) else bif (decide ((r1.fV.length:Int)>8)) then some (false) else Qnr fu r1
def Qks (fu:Nat)  (r1:Request) (k1:Int→Option (Typ×Bool)) (Aa:Int):Option (Typ×Bool) :=
  bif (decide (Aa<(r1.fU.length:Int))) then Qab (ix r1.fU Aa) λAb=>bif (Ab.ft==r1.fT) then Qab (ix r1.fU Aa) λAc=>some (Ab,true) else k1 (w64 (Aa+1)) else some ((⟨0,0,0,0,0,0,0⟩:Typ),false)
def Qfx (fu:Nat)  (r1:Request):Nat→Int→Option (Typ×Bool)
  | 0=>λ_=>none
  | n+1=>Qks fu r1 (Qfx fu r1 n)
def Qfm (fu:Nat) (r1:Request):Option (Typ×Bool) :=
  Qfx fu r1 fu 0
def Ql5 (fu:Nat) (k3:Int→Option (Bool)) (r1:Request) (Aa:Int) (k4:Int→Option (Bool)) (Ab:Int):Option (Bool) :=
  bif (decide (Ab<Aa)) then Qab (ix r1.fU Aa) λAd=>Qab (ix r1.fU Ab) λAc=>bif (Ad.ft==Ac.ft) then some (false) else k4 (w64 (Ab+1)) else k3 (w64 (Aa+1))
def Qd9 (fu:Nat) (k3:Int→Option (Bool)) (r1:Request) (Aa:Int):Nat→Int→Option (Bool)
  | 0=>λ_=>none
  | n+1=>Ql5 fu k3 r1 Aa (Qd9 fu k3 r1 Aa n)
def Qmr (fu:Nat) (k7:Int→Option (Bool)) (r1:Request) (Ab:Int) (k8:Int→Option (Bool)) (Aa:Int):Option (Bool) :=
  bif (decide (Aa<Ab)) then Qab (ix r1.fV Ab) λAd=>Qab (ix r1.fV Aa) λAc=>bif (Ad.ft==Ac.ft) then some (false) else k8 (w64 (Aa+1)) else k7 (w64 (Ab+1))
def Qeb (fu:Nat) (k7:Int→Option (Bool)) (r1:Request) (Aa:Int):Nat→Int→Option (Bool)
  | 0=>λ_=>none
  | n+1=>Qmr fu k7 r1 Aa (Qeb fu k7 r1 Aa n)
def Qpq (fu:Nat) (Aa:Int→Option (Bool)) (Ab:Int)  : Option (Bool) :=
  Aa (w64 (Ab+1))
def Qnf (fu:Nat)  (r1:Request) (Ac:Int→Option (Bool)) (Aa:Int):Option (Bool) :=
  bif (decide (Aa<(r1.fR.length:Int))) then Qab (ix r1.fR Aa) λAb=>bif (decide (Ab.fA≥r1.fG)) then some (false) else Qab (ix r1.fR Aa) λAe=>bif (decide (Ab.fB≥r1.fG)) then some (false) else Qpq fu Ac Aa else Qab (Qfm fu r1) λAd=>some (Ad.2)
def Qda (fu:Nat)  (r1:Request):Nat→Int→Option (Bool)
  | 0=>λ_=>none
  | n+1=>Qnf fu r1 (Qda fu r1 n)
def Qm0 (fu:Nat)  (r1:Request) (k7:Int→Option (Bool)) (Aa:Int):Option (Bool) :=
  bif (decide (Aa<(r1.fV.length:Int))) then Qab (ix r1.fV Aa) λAb=>bif (decide (Ab.fK≥r1.fG)) then some (false) else Qeb fu k7 r1 Aa fu 0 else Qda fu r1 fu 0
def Qbi (fu:Nat)  (r1:Request):Nat→Int→Option (Bool)
  | 0=>λ_=>none
  | n+1=>Qm0 fu r1 (Qbi fu r1 n)
def Qm7 (fu:Nat)  (r1:Request) (k3:Int→Option (Bool)) (Aa:Int):Option (Bool) :=
  bif (decide (Aa<(r1.fU.length:Int))) then Qd9 fu k3 r1 Aa fu 0 else Qbi fu r1 fu 0
def Qbn (fu:Nat)  (r1:Request):Nat→Int→Option (Bool)
  | 0=>λ_=>none
  | n+1=>Qm7 fu r1 (Qbn fu r1 n)
def Qqy (fu:Nat) (r1:Request):Option (Bool) :=
  Qbn fu r1 fu 0
def Ql4 (fu:Nat) (k3:Int→Option (Bool)) (Aa:Int)  : Option (Bool) :=
  k3 (w64 (Aa+1))
def Qn9 (fu:Nat)  (Ab:List Pair) (a5:Int) (b6:Int) (k3:Int→Option (Bool)) (Aa:Int):Option (Bool) :=
  bif (decide (Aa<(Ab.length:Int))) then Qab (ix Ab Aa) λAc=>bif (Ac.fA==a5) then Qab (ix Ab Aa) λAd=>bif (Ac.fB==b6) then some (true) else Ql4 fu k3 Aa else Ql4 fu k3 Aa else some (false)
def Qf9 (fu:Nat)  (Aa:List Pair) (a5:Int) (b6:Int):Nat→Int→Option (Bool)
  | 0=>λ_=>none
  | n+1=>Qn9 fu Aa a5 b6 (Qf9 fu Aa a5 b6 n)
def Qfj (fu:Nat) (Aa:List Pair) (a5:Int) (b6:Int):Option (Bool) :=
  Qf9 fu Aa a5 b6 fu 0
def Qkl (fu:Nat) (Aa:Int→Option (Bool)) (Ab:Int)  : Option (Bool) :=
  Aa (w64 (Ab+1))
def Qmu (fu:Nat) (k9:Int→Option (Bool)) (Ac:List Pair) (Ag:Int) (Aa:Int) (Ad:Int→Option (Bool)) (Ab:Int):Option (Bool) :=
  bif (decide (Ab<Ag)) then bif (Aa==Ab) then Qab (Qfj fu Ac Aa Aa) λAe=>bif (!Ae) then some (false) else Qab (Qfj fu Ac Aa Ab) λAj=>Qab (Qfj fu Ac Ab Aa) λAh=>bif (!(Aj==Ah)) then some (false) else Qkl fu Ad Ab else Qab (Qfj fu Ac Aa Ab) λAi=>Qab (Qfj fu Ac Ab Aa) λAf=>bif (!(Ai==Af)) then some (false) else Qkl fu Ad Ab else k9 (w64 (Aa+1))
def Qd5 (fu:Nat) (k9:Int→Option (Bool)) (Aa:List Pair) (Ac:Int) (Ab:Int):Nat→Int→Option (Bool)
  | 0=>λ_=>none
  | n+1=>Qmu fu k9 Aa Ac Ab (Qd5 fu k9 Aa Ac Ab n)
def Ql6 (fu:Nat)  (Ac:List Pair) (Ab:Int) (k9:Int→Option (Bool)) (Aa:Int):Option (Bool) :=
  bif (decide (Aa<Ab)) then Qd5 fu k9 Ac Ab Aa fu 0 else some (true)
def Qdh (fu:Nat)  (Aa:List Pair) (Ab:Int):Nat→Int→Option (Bool)
  | 0=>λ_=>none
  | n+1=>Ql6 fu Aa Ab (Qdh fu Aa Ab n)
def Qqa (fu:Nat) (Ab:List Pair) (Aa:Int):Option (Bool) :=
  Qab (Qan fu Aa 1 4) λx6=>bif (!x6) then some (false) else Qdh fu Ab Aa fu 0
def Qkw (fu:Nat)  (n1:Int) (k1:List Int→Int→Option ((List Int))) (Ab:List Int) (Aa:Int):Option ((List Int)) :=
  bif (decide (Aa<n1)) then Qab (Qc7 8 Ab (([Aa]:List Int))) λAc=>k1 Ac (w64 (Aa+1)) else some (Ab)
def Qfz (fu:Nat)  (n1:Int):Nat→List Int→Int→Option ((List Int))
  | 0=>λ_ _=>none
  | n+1=>Qkw fu n1 (Qfz fu n1 n)
def Qi7 (fu:Nat) (n1:Int):Option ((List Int)) :=
  Qfz fu n1 fu (([]:List Int)) 0
def Qh7 (fu:Nat) (k3:List Int→Int→Int→Option ((List Int))) (Ah:List Int) (Ai:Bool) (Ac:(List Int)) (Ae:(List Int)) (Ad:List Int) (Aa:Int) (Ab:Int)  : Option ((List Int)) :=
  bif (Ab==(Ae.length:Int)) then Qab (ix Ac Aa) λAv=>Qab (Qc7 8 Ad (([Av]:List Int))) λAl=>k3 Al (w64 (Aa+1)) Ab else bif (Aa==(Ac.length:Int)) then Qab (ix Ae Ab) λAp=>Qab (Qc7 8 Ad (([Ap]:List Int))) λAs=>k3 As Aa (w64 (Ab+1)) else Qab (ix Ae Ab) λAg=>Qab (ix Ah Ag) λAj=>Qab (ix Ac Aa) λAf=>Qab (ix Ah Af) λAk=>bif (decide (Aj<Ak)) then bif (!Ai) then Qab (ix Ae Ab) λBe=>Qab (Qc7 8 Ad (([Ag]:List Int))) λAt=>k3 At Aa (w64 (Ab+1)) else Qab (ix Ae Ab) λBk=>Qab (ix Ah Ag) λBi=>Qab (ix Ac Aa) λAz=>Qab (ix Ah Af) λBl=>bif (decide (Aj>Ak)) then bif Ai then Qab (ix Ae Ab) λAx=>Qab (Qc7 8 Ad (([Ag]:List Int))) λAr=>k3 Ar Aa (w64 (Ab+1)) else Qab (ix Ac Aa) λBh=>Qab (Qc7 8 Ad (([Af]:List Int))) λAq=>k3 Aq (w64 (Aa+1)) Ab else Qab (ix Ac Aa) λBd=>Qab (Qc7 8 Ad (([Af]:List Int))) λAm=>k3 Am (w64 (Aa+1)) Ab else Qab (ix Ae Ab) λBg=>Qab (ix Ah Ag) λAy=>Qab (ix Ac Aa) λBb=>Qab (ix Ah Af) λBj=>bif (decide (Aj>Ak)) then bif Ai then Qab (ix Ae Ab) λBc=>Qab (Qc7 8 Ad (([Ag]:List Int))) λAw=>k3 Aw Aa (w64 (Ab+1)) else Qab (ix Ac Aa) λBa=>Qab (Qc7 8 Ad (([Af]:List Int))) λAu=>k3 Au (w64 (Aa+1)) Ab else Qab (ix Ac Aa) λBf=>Qab (Qc7 8 Ad (([Af]:List Int))) λAo=>k3 Ao (w64 (Aa+1)) Ab
def Qne (fu:Nat)  (Ag:List Int) (Af:Bool) (Ab:(List Int)) (Ae:(List Int)) (k3:List Int→Int→Int→Option ((List Int))) (Ad:List Int) (Aa:Int) (Ac:Int):Option ((List Int)) :=
  bif (decide (Aa<(Ab.length:Int))) then Qh7 fu k3 Ag Af Ab Ae Ad Aa Ac else bif (decide (Ac<(Ae.length:Int))) then Qh7 fu k3 Ag Af Ab Ae Ad Aa Ac else some (Ad)
def Qch (fu:Nat)  (Ac:List Int) (Ab:Bool) (Ad:(List Int)) (Aa:(List Int)):Nat→List Int→Int→Int→Option ((List Int))
  | 0=>λ_ _ _=>none
  | n+1=>Qne fu Ac Ab Ad Aa (Qch fu Ac Ab Ad Aa n)
def Qt4 (fu:Nat) (self:List Int→List Int→Bool→Option ((List Int))) (Ac:List Int) (Aa:List Int) (Ab:Bool):Option ((List Int)) :=
  bif (decide ((Aa.length:Int)<2)) then Qab (Qc7 8 (([]:List Int)) Aa) λAf=>some (Af) else Qab (sls Aa 0 (w64 (Int.tdiv (Aa.length:Int) 2))) λAh=>Qab (self Ac Ah Ab) λAd=>Qab (sls Aa (w64 (Int.tdiv (Aa.length:Int) 2)) (Aa.length:Int)) λAe=>Qab (self Ac Ae Ab) λAg=>Qch fu Ac Ab Ad Ag fu (([]:List Int)) 0 0
def Qit (fu:Nat):Nat→List Int→List Int→Bool→Option ((List Int))
  | 0=>λ_ _ _=>none
  | n+1=>Qt4 fu (Qit fu n)
def Qlf (fu:Nat) (Ac:List Int) (Aa:List Int) (Ab:Bool):Option ((List Int)):=Qit fu fu Ac Aa Ab
def Qow (fu:Nat) (Aa:List Int):Option ((List Int)) :=
  Qab (Qi7 fu (Aa.length:Int)) λx5=>Qab (Qlf fu Aa x5 false) λAb=>some (Ab)
def Qlb (fu:Nat) (Aa:Int) (h2:Int) (d3:Int):Option ((List Int)) :=
  Qab (Qow fu (([Aa,h2,d3]:List Int))) λx9=>Qab (ix x9 0) λAf=>Qab (ix (([Aa,h2,d3]:List Int)) Af) λAe=>Qab (ix x9 1) λAg=>Qab (ix (([Aa,h2,d3]:List Int)) Ag) λAd=>Qab (ix x9 2) λAc=>Qab (ix (([Aa,h2,d3]:List Int)) Ac) λAb=>some (([Ae,Ad,Ab]:List Int))
def Qpn (fu:Nat) (x1:Item) (t2:Typ):Option (Bool) :=
  Qab (Qlb fu x1.fW x1.fH x1.fD) λAa=>Qab (Qlb fu t2.fW t2.fH t2.fD) λAb=>Qab (ix Aa 0) λAd=>Qab (ix Ab 0) λAc=>bif (decide (Ad≤Ac)) then Qab (ix Aa 1) λAg=>Qab (ix Ab 1) λAf=>bif (decide (Ag≤Af)) then Qab (ix Aa 2) λAe=>Qab (ix Ab 2) λAh=>bif (decide (Ae≤Ah)) then some (decide (x1.fQ≤t2.fQ)) else some (false) else some (false) else some (false)
def Qsu (fu:Nat) (k4:Int→Option (Int)) (Aa:Int)  : Option (Int) :=
  k4 (w64 (Aa+1))
def Qpu (fu:Nat)  (r1:Request) (k4:Int→Option (Int)) (Ab:Int):Option (Int) :=
  bif (decide (Ab<(r1.fU.length:Int))) then Qab (ix r1.fU Ab) λAa=>bif (decide (Aa.fW>r1.fJ.fW)) then some (6) else bif (decide (Aa.fD>r1.fJ.fD)) then some (6) else bif (decide (Aa.fH>r1.fJ.fH)) then some (6) else bif (decide ((w64 (Aa.qQ+Aa.fQ))>r1.fJ.fQ)) then some (6) else Qsu fu k4 Ab else some (0)
def Qfr (fu:Nat)  (r1:Request):Nat→Int→Option (Int)
  | 0=>λ_=>none
  | n+1=>Qpu fu r1 (Qfr fu r1 n)
def Qp5 (fu:Nat)  (r1:Request) (Ad:Typ×Bool) (k1:Int→Option (Int)) (Aa:Int):Option (Int) :=
  bif (decide (Aa<(r1.fV.length:Int))) then Qab (ix r1.fV Aa) λAb=>Qab (Qpn fu Ab Ad.1) λAc=>bif (!Ac) then some (5) else k1 (w64 (Aa+1)) else Qfr fu r1 fu 0
def Qg6 (fu:Nat)  (r1:Request) (Aa:Typ×Bool):Nat→Int→Option (Int)
  | 0=>λ_=>none
  | n+1=>Qp5 fu r1 Aa (Qg6 fu r1 Aa n)
def Qd6 (fu:Nat) (r1:Request):Option (Int) :=
  Qab (Qny fu r1) λAa=>bif (!Aa) then some (2) else Qab (Qqy fu r1) λAc=>bif (!Ac) then some (3) else Qab (Qqa fu r1.fR r1.fG) λAd=>bif (!Ad) then some (4) else Qab (Qfm fu r1) λAb=>Qg6 fu r1 Ab fu 0
def Qlu (fu:Nat) (k3:List Item→Int→Option (Request×Cur)) (Aa:Int) (Ab:List Item):Option (Request×Cur) :=
  k3 Ab (w64 (Aa+1))
def Qoj (fu:Nat)  (c1:Cur) (Aa:Request×Cur) (Ae:Typ×Bool) (k3:List Item→Int→Option (Request×Cur)) (Ac:List Item) (Ab:Int):Option (Request×Cur) :=
  bif (decide (Ab<(Aa.1.fV.length:Int))) then Qab (ix Aa.1.fV Ab) λAd=>Qab (Qpn fu Ad Ae.1) λAg=>bif Ag then Qab (ix Aa.1.fV Ab) λAh=>Qab (Qc7 56 Ac (([Ad]:List Item))) λAf=>Qlu fu k3 Ab Af else Qlu fu k3 Ab Ac else some ((⟨Aa.1.f0,(⟨30,25,24,400⟩:Pallet),Aa.1.fG,Aa.1.fR,Aa.1.fU,Aa.1.fT,Ac⟩:Request),(⟨c1.fb,Aa.2.fi,Aa.2.fh⟩:Cur))
def Qga (fu:Nat)  (c1:Cur) (Aa:Request×Cur) (Ab:Typ×Bool):Nat→List Item→Int→Option (Request×Cur)
  | 0=>λ_ _=>none
  | n+1=>Qoj fu c1 Aa Ab (Qga fu c1 Aa Ab n)
def Qrw (fu:Nat) (c1:Cur):Option (Request×Cur) :=
  Qab (Qlh fu c1) λAa=>Qab (Qd6 fu Aa.1) λAb=>bif (Ab != 0) then Qab (Qfm fu ((⟨Aa.1.f0,(⟨30,25,24,400⟩:Pallet),Aa.1.fG,Aa.1.fR,Aa.1.fU,Aa.1.fT,Aa.1.fV⟩:Request))) λAc=>Qga fu c1 Aa Ac fu (([]:List Item)) 0 else some (Aa.1,(⟨c1.fb,Aa.2.fi,Aa.2.fh⟩:Cur))
def Qpg (fu:Nat) (Ab:List U8):Option (ByteArray) :=
  Qab (Qs6 fu Ab) λx5=>Qab (Qkj fu (⟨Ab,x5.fi,x5.fh⟩:Cur) 3) λAa=>bif Aa.1 then Qab (Qr0 fu (⟨Ab,Aa.2.fi,Aa.2.fh⟩:Cur)) λAe=>some (Ae.1) else Qab (Qrw fu (⟨Ab,Aa.2.fi,Aa.2.fh⟩:Cur)) λAd=>Qab (Qiq fu Ad.1) λAc=>some (Ac)
def Qml (fu:Nat) (Aa:List U8):Option (ByteArray) :=
  Qab (Qpg fu Aa) λx5=>some (x5)
def Qn7 (fu:Nat) (k3:List ByteArray→Int→Int→Option ((List ByteArray))) (Aa:Int) (Ac:List ByteArray) (Ab:Int):Option ((List ByteArray)) :=
  k3 Ac Ab (w64 (Aa+1))
def Qpr (fu:Nat)  (Ab:ByteArray) (Af:Int) (k3:List ByteArray→Int→Int→Option ((List ByteArray))) (Ad:List ByteArray) (Ac:Int) (Aa:Int):Option ((List ByteArray)) :=
  bif (decide (Aa<((Ab.size:Int)))) then Qab (sx Ab Aa) λAg=>bif (Ag==Af) then Qab (ssl Ab Ac Aa) λAj=>Qab (Qc7 16 Ad (([Aj]:List ByteArray))) λAh=>Qn7 fu k3 Aa Ah (w64 (Aa+1)) else Qn7 fu k3 Aa Ad Ac else Qab (ssl Ab Ac (Ab.size:Int)) λAi=>Qab (Qc7 16 Ad (([Ai]:List ByteArray))) λAe=>some (Ae)
def Qg9 (fu:Nat)  (Aa:ByteArray) (Ab:Int):Nat→List ByteArray→Int→Int→Option ((List ByteArray))
  | 0=>λ_ _ _=>none
  | n+1=>Qpr fu Aa Ab (Qg9 fu Aa Ab n)
def Qjd (fu:Nat) (Aa:ByteArray) (Ab:Int):Option ((List ByteArray)) :=
  Qg9 fu Aa Ab fu (([]:List ByteArray)) 0 0
def Qtt (fu:Nat) (x1:ByteArray):Option (Int×Bool):=Jdj x1
def Qat (fu:Nat) (n1:Int) (Ab:Int) (Aa:Int):Option (Bool) :=
  bif (decide (n1≥Ab)) then some (decide (n1≤Aa)) else some (false)
def Qtl (fu:Nat) (x1:Int):Option ByteArray:=Jcw x1
def Qn1 (fu:Nat) (n1:Int):Option (ByteArray) :=
  Qab (Qtl fu n1) λx2=>some (x2)
def Qrs (fu:Nat) (x2:Int×Bool)  : Option (Int×Bool) :=
  some (x2.1,true)
def Qik (fu:Nat) (Aa:ByteArray):Option (Int×Bool) :=
  Qab (Qtt fu Aa) λx2=>bif x2.2 then some (0,false) else Qab (Qat fu x2.1 0 999999) λAb=>bif (!Ab) then some (0,false) else Qab (Qn1 fu x2.1) λAc=>bif (!(Ac.toList==Aa.toList)) then some (0,false) else Qrs fu x2
def Qnj (fu:Nat)  (Ad:List ByteArray) (k2:List Int→Int→Option ((List Int)×Bool)) (Ac:List Int) (Aa:Int):Option ((List Int)×Bool) :=
  bif (decide (Aa<(Ad.length:Int))) then Qab (ix Ad Aa) λAe=>Qab (Qik fu Ae) λAb=>bif (!Ab.2) then some (([]:List Int),false) else Qab (Qc7 8 Ac (([Ab.1]:List Int))) λAf=>k2 Af (w64 (Aa+1)) else some (Ac,true)
def Qfg (fu:Nat)  (Aa:List ByteArray):Nat→List Int→Int→Option ((List Int)×Bool)
  | 0=>λ_ _=>none
  | n+1=>Qnj fu Aa (Qfg fu Aa n)
def Qp9 (fu:Nat) (x4:(List ByteArray))  : Option ((List Int)×Bool) :=
  Qab (sls x4 1 (x4.length:Int)) λAa=>Qfg fu Aa fu (([]:List Int)) 0
def Qbo (fu:Nat) (Ad:ByteArray) (Ab:ByteArray) (Ac:Int):Option ((List Int)×Bool) :=
  Qab (Qjd fu Ad 32) λx4=>Qab (ix x4 0) λAa=>bif (!(Aa.toList==Ab.toList)) then some (([]:List Int),false) else bif ((x4.length:Int) != (w64 (Ac+1))) then some (([]:List Int),false) else Qp9 fu x4
def Qqh (fu:Nat) (r1:Request) (Ac:ByteArray):Option (Int×Request) :=
  bif (Ac.toList==(⟨#[119,97,121,32,102,105,114,115,116]⟩:ByteArray).toList) then some (0,(⟨0,r1.fJ,r1.fG,r1.fR,r1.fU,r1.fT,r1.fV⟩:Request)) else bif (Ac.toList==(⟨#[119,97,121,32,110,101,120,116]⟩:ByteArray).toList) then some (0,(⟨1,r1.fJ,r1.fG,r1.fR,r1.fU,r1.fT,r1.fV⟩:Request)) else Qab (Qbo fu Ac (⟨#[112,97,108,108,101,116]⟩:ByteArray) 4) λAd=>bif Ad.2 then Qab (ix Ad.1 0) λAu=>Qab (ix Ad.1 1) λBa=>Qab (ix Ad.1 2) λAt=>Qab (ix Ad.1 3) λBb=>some (1,(⟨r1.f0,(⟨Au,Ba,At,Bb⟩:Pallet),r1.fG,r1.fR,r1.fU,r1.fT,r1.fV⟩:Request)) else Qab (Qbo fu Ac (⟨#[99,108,97,115,115,101,115]⟩:ByteArray) 1) λAg=>bif Ag.2 then Qab (ix Ag.1 0) λAv=>some (2,(⟨r1.f0,r1.fJ,Av,r1.fR,r1.fU,r1.fT,r1.fV⟩:Request)) else Qab (Qbo fu Ac (⟨#[119,105,116,104]⟩:ByteArray) 2) λAe=>bif Ae.2 then Qab (ix Ae.1 0) λBd=>Qab (ix Ae.1 1) λBg=>Qab (Qc7 16 r1.fR (([(⟨Bd,Bg⟩:Pair)]:List Pair))) λAp=>some (3,(⟨r1.f0,r1.fJ,r1.fG,Ap,r1.fU,r1.fT,r1.fV⟩:Request)) else Qab (Qbo fu Ac (⟨#[116,121,112,101]⟩:ByteArray) 7) λAb=>bif Ab.2 then Qab (ix Ab.1 0) λAk=>Qab (ix Ab.1 1) λAl=>Qab (ix Ab.1 2) λBc=>Qab (ix Ab.1 3) λAx=>Qab (ix Ab.1 4) λAw=>Qab (ix Ab.1 5) λAy=>Qab (ix Ab.1 6) λAs=>Qab (Qc7 56 r1.fU (([(⟨Ak,Al,Bc,Ax,Aw,Ay,As⟩:Typ)]:List Typ))) λBf=>some (4,(⟨r1.f0,r1.fJ,r1.fG,r1.fR,Bf,r1.fT,r1.fV⟩:Request)) else Qab (Qbo fu Ac (⟨#[109,97,115,116,101,114]⟩:ByteArray) 1) λAf=>bif Af.2 then Qab (ix Af.1 0) λAh=>some (5,(⟨r1.f0,r1.fJ,r1.fG,r1.fR,r1.fU,Ah,r1.fV⟩:Request)) else Qab (Qbo fu Ac (⟨#[105,116,101,109]⟩:ByteArray) 7) λAa=>bif Aa.2 then Qab (ix Aa.1 0) λAm=>Qab (ix Aa.1 1) λAq=>Qab (ix Aa.1 2) λAz=>Qab (ix Aa.1 3) λAr=>Qab (ix Aa.1 4) λAi=>Qab (ix Aa.1 5) λBe=>Qab (ix Aa.1 6) λAj=>Qab (Qc7 56 r1.fV (([(⟨Am,Aq,Az,Ar,Ai,Be,Aj⟩:Item)]:List Item))) λAo=>some (6,(⟨r1.f0,r1.fJ,r1.fG,r1.fR,r1.fU,r1.fT,Ao⟩:Request)) else some ((-1),r1)
def Qg7 (fu:Nat)   : Option (Bool) :=
  some (false)
def Ql2 (fu:Nat) (Aa:Int) (Ab:Int):Option (Bool) :=
  bif (Ab==0) then bif (Ab==0) then some (Aa==(w64 (Ab - 1))) else bif (Ab==3) then bif (Aa==2) then some (true) else some (Aa==3) else bif (Ab==4) then Qab (Qat fu Aa 2 4) λAe=>some (Ae) else bif (Ab==5) then Qab (Qat fu Aa 2 4) λAf=>some (Af) else bif (Ab==6) then bif (Aa==5) then some (true) else some (Aa==6) else Qg7 fu else bif (Ab==1) then bif (Ab==1) then some (Aa==(w64 (Ab - 1))) else bif (Ab==3) then bif (Aa==2) then some (true) else some (Aa==3) else bif (Ab==4) then Qab (Qat fu Aa 2 4) λAg=>some (Ag) else bif (Ab==5) then Qab (Qat fu Aa 2 4) λAc=>some (Ac) else bif (Ab==6) then bif (Aa==5) then some (true) else some (Aa==6) else Qg7 fu else bif (Ab==2) then some (Aa==(w64 (Ab - 1))) else bif (Ab==3) then bif (Aa==2) then some (true) else some (Aa==3) else bif (Ab==4) then Qab (Qat fu Aa 2 4) λAh=>some (Ah) else bif (Ab==5) then Qab (Qat fu Aa 2 4) λAd=>some (Ad) else bif (Ab==6) then bif (Aa==5) then some (true) else some (Aa==6) else Qg7 fu
def Qjj (fu:Nat)  (x5:(List ByteArray)) (Ao:List ByteArray) (k1:Int→Int→Int→Int→Int→Int→List Pair→List Typ→Int→List Item→Int→Int→Option (Request×Int)) (Aj:Int) (Ac:Int) (Af:Int) (Al:Int) (Ai:Int) (Am:Int) (Ae:List Pair) (Ag:List Typ) (Ah:Int) (Ak:List Item) (Ad:Int) (Ab:Int):Option (Request×Int) :=
  bif (decide (Ab<(Ao.length:Int))) then Qab (ix Ao Ab) λAp=>Qab (Qqh fu ((⟨Aj,(⟨Ac,Af,Al,Ai⟩:Pallet),Am,Ae,Ag,Ah,Ak⟩:Request)) Ap) λAa=>Qab (Ql2 fu Ad Aa.1) λAr=>bif (!Ar) then some ((⟨0,(⟨0,0,0,0⟩:Pallet),0,[],[],0,[]⟩:Request),Ab) else k1 Aa.2.f0 Aa.2.fJ.fW Aa.2.fJ.fD Aa.2.fJ.fH Aa.2.fJ.fQ Aa.2.fG Aa.2.fR Aa.2.fU Aa.2.fT Aa.2.fV Aa.1 (w64 (Ab+1)) else bif (decide (Ad<5)) then some ((⟨0,(⟨0,0,0,0⟩:Pallet),0,[],[],0,[]⟩:Request),w64 ((x5.length:Int) - 1)) else Qab (ix x5 (w64 ((x5.length:Int) - 1))) λAq=>bif (!(Aq.toList==(⟨#[]⟩:ByteArray).toList)) then some ((⟨0,(⟨0,0,0,0⟩:Pallet),0,[],[],0,[]⟩:Request),w64 ((x5.length:Int) - 1)) else some ((⟨Aj,(⟨Ac,Af,Al,Ai⟩:Pallet),Am,Ae,Ag,Ah,Ak⟩:Request),(-1))
def Qe9 (fu:Nat)  (x5:(List ByteArray)) (Aa:List ByteArray):Nat→Int→Int→Int→Int→Int→Int→List Pair→List Typ→Int→List Item→Int→Int→Option (Request×Int)
  | 0=>λ_ _ _ _ _ _ _ _ _ _ _ _=>none
  | n+1=>Qjj fu x5 Aa (Qe9 fu x5 Aa n)
def Qis (fu:Nat) (Aa:ByteArray):Option (Request×Int) :=
  Qab (Qjd fu Aa 10) λx5=>bif (decide ((w64 ((x5.length:Int) - 1))>60)) then some ((⟨0,(⟨0,0,0,0⟩:Pallet),0,[],[],0,[]⟩:Request),60) else Qab (sls x5 0 (w64 ((x5.length:Int) - 1))) λAb=>Qe9 fu x5 Ab fu 0 0 0 0 0 0 (([]:List Pair)) (([]:List Typ)) 0 (([]:List Item)) ((-1)) 0
def Qp1 (fu:Nat) (t1:Typ) (x2:Int):Option (Bool) :=
  some (t1.ft==x2)
def Qcn (fu:Nat)  (Ab:List Typ) (f5:Typ→Option Bool) (k1:Int→Option (Int)) (Aa:Int):Option (Int) :=
  bif (decide (Aa<(Ab.length:Int))) then Qab (ix Ab Aa) λAc=>Qab (f5 Ac) λAd=>bif Ad then some (Aa) else k1 (w64 (Aa+1)) else some ((-1))
def Qa3 (fu:Nat)  (Aa:List Typ) (f5:Typ→Option Bool):Nat→Int→Option (Int)
  | 0=>λ_=>none
  | n+1=>Qcn fu Aa f5 (Qa3 fu Aa f5 n)
def Qbl (fu:Nat) (Aa:List Typ) (f5:Typ→Option Bool):Option (Int) :=
  Qa3 fu Aa f5 fu 0
def Qh5 (fu:Nat) (r1:Request) (Ac:Int):Option (Typ×Bool) :=
  Qab (Qbl fu r1.fU (λAb=>Qp1 fu Ab Ac)) λAa=>bif (decide (Aa<0)) then some ((⟨0,0,0,0,0,0,0⟩:Typ),false) else Qab (ix r1.fU Aa) λAd=>some (Ad,true)
def Qh8 (fu:Nat) (r1:Request):Option (Typ×Bool) :=
  Qab (Qh5 fu r1 r1.fT) λAa=>some (Aa.1,Aa.2)
def Qc8 (fu:Nat) (n1:Int):Option (Bool) :=
  Qab (Qat fu n1 1 2000) λx2=>some (x2)
def Qel (fu:Nat) (x1:Pallet):Option (Bool) :=
  Qab (Qc8 fu x1.fW) λx5=>bif x5 then Qab (Qc8 fu x1.fD) λAa=>bif Aa then Qab (Qc8 fu x1.fH) λAc=>bif Ac then Qab (Qat fu x1.fQ 1 100000) λAb=>some (Ab) else some (false) else some (false) else some (false)
def Qco (fu:Nat)  (Ab:List Pair) (f5:Pair→Option Bool) (k1:Int→Option (Int)) (Aa:Int):Option (Int) :=
  bif (decide (Aa<(Ab.length:Int))) then Qab (ix Ab Aa) λAc=>Qab (f5 Ac) λAd=>bif Ad then some (Aa) else k1 (w64 (Aa+1)) else some ((-1))
def Qa2 (fu:Nat)  (Aa:List Pair) (f5:Pair→Option Bool):Nat→Int→Option (Int)
  | 0=>λ_=>none
  | n+1=>Qco fu Aa f5 (Qa2 fu Aa f5 n)
def Qb9 (fu:Nat) (Aa:List Pair) (f5:Pair→Option Bool):Option (Int) :=
  Qa2 fu Aa f5 fu 0
def Qa4 (fu:Nat) (Aa:List Pair) (f5:Pair→Option Bool):Option (Bool) :=
  Qab (Qb9 fu Aa f5) λAb=>some (decide (Ab≥0))
def Qj3 (fu:Nat) (p1:Pair):Option (Bool) :=
  Qab (Qat fu p1.fA 0 3) λx5=>bif (!x5) then some (true) else Qab (Qat fu p1.fB 0 3) λAa=>some (!Aa)
def Qav (fu:Nat) (Aa:List Typ) (f5:Typ→Option Bool):Option (Bool) :=
  Qab (Qbl fu Aa f5) λAb=>some (decide (Ab≥0))
def Qr2 (fu:Nat) (x1:Typ):Option (Bool) :=
  Qab (Qat fu x1.ft 0 999) λx5=>bif x5 then Qab (Qc8 fu x1.fW) λAb=>bif Ab then Qab (Qc8 fu x1.fH) λAf=>bif Af then Qab (Qc8 fu x1.fD) λAe=>bif Ae then Qab (Qat fu x1.qQ 0 100000) λAd=>bif Ad then Qab (Qat fu x1.fQ 1 100000) λAa=>bif Aa then Qab (Qat fu x1.fl 0 100000) λAc=>some (Ac) else some (false) else some (false) else some (false) else some (false) else some (false) else some (false)
def Qjx (fu:Nat) (t1:Typ):Option (Bool) :=
  Qab (Qr2 fu t1) λx5=>some (!x5)
def Qsd (fu:Nat) (x1:Item):Option (Bool) :=
  Qab (Qat fu x1.ft 0 999) λx5=>bif x5 then Qab (Qc8 fu x1.fW) λAb=>bif Ab then Qab (Qc8 fu x1.fH) λAf=>bif Af then Qab (Qc8 fu x1.fD) λAe=>bif Ae then Qab (Qat fu x1.fQ 1 100000) λAd=>bif Ad then Qab (Qat fu x1.fK 0 3) λAa=>bif Aa then Qab (Qat fu x1.fF 1 6) λAc=>some (Ac) else some (false) else some (false) else some (false) else some (false) else some (false) else some (false)
def Qkr (fu:Nat)  (r1:Request) (k3:Int→Int→Option (Bool)) (Ac:Int) (Aa:Int):Option (Bool) :=
  bif (decide (Aa<(r1.fV.length:Int))) then Qab (ix r1.fV Aa) λAb=>Qab (Qsd fu Ab) λAd=>bif (!Ad) then some (false) else k3 (w64 (Ac+Ab.fF)) (w64 (Aa+1)) else some (decide (Ac≤12))
def Qeg (fu:Nat)  (r1:Request):Nat→Int→Int→Option (Bool)
  | 0=>λ_ _=>none
  | n+1=>Qkr fu r1 (Qeg fu r1 n)
def Qoy (fu:Nat) (r1:Request)  : Option (Bool) :=
  Qeg fu r1 fu 0 0
def Qoa (fu:Nat) (r1:Request)  : Option (Bool) :=
  Qab (Qa4 fu r1.fR (λAb=>Qj3 fu Ab)) λAa=>bif Aa then some (false) else Qab (Qat fu (r1.fU.length:Int) 1 5) λAe=>bif (!Ae) then some (false) else Qab (Qav fu r1.fU (λAd=>Qjx fu Ad)) λAc=>bif Ac then some (false) else Qab (Qat fu r1.fT 0 999) λAf=>bif (!Af) then some (false) else bif (decide ((r1.fV.length:Int)>8)) then some (false) else Qoy fu r1
def Qov (fu:Nat) (r1:Request):Option (Bool) :=
  Qab (Qat fu r1.f0 0 1) λAa=>bif (!Aa) then some (false) else Qab (Qel fu r1.fJ) λAb=>bif (!Ab) then some (false) else Qab (Qat fu r1.fG 1 4) λAc=>bif (!Ac) then some (false) else bif (decide ((r1.fR.length:Int)>16)) then some (false) else Qoa fu r1
def Qrb (fu:Nat) (q1:Typ) (x2:Typ):Option (Bool) :=
  some (q1.ft==x2.ft)
def Qrk (fu:Nat) (q1:Item) (x2:Item):Option (Bool) :=
  some (q1.ft==x2.ft)
def Qcm (fu:Nat)  (Ab:List Item) (f5:Item→Option Bool) (k1:Int→Option (Int)) (Aa:Int):Option (Int) :=
  bif (decide (Aa<(Ab.length:Int))) then Qab (ix Ab Aa) λAc=>Qab (f5 Ac) λAd=>bif Ad then some (Aa) else k1 (w64 (Aa+1)) else some ((-1))
def Qa1 (fu:Nat)  (Aa:List Item) (f5:Item→Option Bool):Nat→Int→Option (Int)
  | 0=>λ_=>none
  | n+1=>Qcm fu Aa f5 (Qa1 fu Aa f5 n)
def Qca (fu:Nat) (Aa:List Item) (f5:Item→Option Bool):Option (Int) :=
  Qa1 fu Aa f5 fu 0
def Qa5 (fu:Nat) (Aa:List Item) (f5:Item→Option Bool):Option (Bool) :=
  Qab (Qca fu Aa f5) λAb=>some (decide (Ab≥0))
def Qln (fu:Nat) (p1:Pair) (x2:Request):Option (Bool) :=
  bif (decide (p1.fA≥x2.fG)) then some (true) else some (decide (p1.fB≥x2.fG))
def Qpp (fu:Nat) (k4:Int→Option (Bool)) (Aa:Int)  : Option (Bool) :=
  k4 (w64 (Aa+1))
def Qnd (fu:Nat)  (r1:Request) (k4:Int→Option (Bool)) (Aa:Int):Option (Bool) :=
  bif (decide (Aa<(r1.fV.length:Int))) then Qab (ix r1.fV Aa) λAb=>bif (decide (Ab.fK≥r1.fG)) then some (false) else Qab (sls r1.fV 0 Aa) λAg=>Qab (Qa5 fu Ag (λAc=>Qrk fu Ac Ab)) λAf=>bif Af then some (false) else Qpp fu k4 Aa else Qab (Qh8 fu r1) λAh=>bif Ah.2 then Qab (Qa4 fu r1.fR (λAe=>Qln fu Ae r1)) λAd=>some (!Ad) else some (false)
def Qdb (fu:Nat)  (r1:Request):Nat→Int→Option (Bool)
  | 0=>λ_=>none
  | n+1=>Qnd fu r1 (Qdb fu r1 n)
def Qnk (fu:Nat)  (r1:Request) (k1:Int→Option (Bool)) (Aa:Int):Option (Bool) :=
  bif (decide (Aa<(r1.fU.length:Int))) then Qab (ix r1.fU Aa) λAc=>Qab (sls r1.fU 0 Aa) λAe=>Qab (Qav fu Ae (λAb=>Qrb fu Ab Ac)) λAd=>bif Ad then some (false) else k1 (w64 (Aa+1)) else Qdb fu r1 fu 0
def Qe6 (fu:Nat)  (r1:Request):Nat→Int→Option (Bool)
  | 0=>λ_=>none
  | n+1=>Qnk fu r1 (Qe6 fu r1 n)
def Qqd (fu:Nat) (r1:Request):Option (Bool) :=
  Qe6 fu r1 fu 0
def Qc6 (fu:Nat)  (Ab:List Pair) (v5:Pair) (k1:Int→Option (Int)) (Aa:Int):Option (Int) :=
  bif (decide (Aa<(Ab.length:Int))) then Qab (ix Ab Aa) λAc=>bif (decide (v5=Ac)) then some (Aa) else k1 (w64 (Aa+1)) else some ((-1))
def Qba (fu:Nat)  (Aa:List Pair) (v5:Pair):Nat→Int→Option (Int)
  | 0=>λ_=>none
  | n+1=>Qc6 fu Aa v5 (Qba fu Aa v5 n)
def Qee (fu:Nat) (Aa:List Pair) (v5:Pair):Option (Int) :=
  Qba fu Aa v5 fu 0
def Qdl (fu:Nat) (Ab:List Pair) (v5:Pair):Option (Bool) :=
  Qab (Qee fu Ab v5) λAa=>some (decide (Aa≥0))
def Qhq (fu:Nat) (Aa:List Pair) (a5:Int) (b6:Int):Option (Bool) :=
  Qab (Qdl fu Aa (⟨a5,b6⟩:Pair)) λx7=>some (x7)
def Qm2 (fu:Nat) (k3:Int→Option (Bool)) (Ac:List Pair) (Ad:Int) (Ab:Int) (k4:Int→Option (Bool)) (Aa:Int):Option (Bool) :=
  bif (decide (Aa<Ad)) then Qab (Qhq fu Ac Ab Aa) λAe=>Qab (Qhq fu Ac Aa Ab) λAf=>bif (!(Ae==Af)) then some (false) else k4 (w64 (Aa+1)) else k3 (w64 (Ab+1))
def Qey (fu:Nat) (k3:Int→Option (Bool)) (Aa:List Pair) (Ac:Int) (Ab:Int):Nat→Int→Option (Bool)
  | 0=>λ_=>none
  | n+1=>Qm2 fu k3 Aa Ac Ab (Qey fu k3 Aa Ac Ab n)
def Qm8 (fu:Nat)  (Ab:List Pair) (Ac:Int) (k3:Int→Option (Bool)) (Aa:Int):Option (Bool) :=
  bif (decide (Aa<Ac)) then Qab (Qhq fu Ab Aa Aa) λAd=>bif (!Ad) then some (false) else Qey fu k3 Ab Ac Aa fu 0 else some (true)
def Qe5 (fu:Nat)  (Aa:List Pair) (Ab:Int):Nat→Int→Option (Bool)
  | 0=>λ_=>none
  | n+1=>Qm8 fu Aa Ab (Qe5 fu Aa Ab n)
def Qqo (fu:Nat) (Ab:List Pair) (Aa:Int):Option (Bool) :=
  Qab (Qat fu Aa 1 4) λx6=>bif (!x6) then some (false) else Qe5 fu Ab Aa fu 0
def Qcl (fu:Nat) (x1:List Int):Option (List Int):=Q2n x1
def Qtr (fu:Nat) (x1:Item) (t2:Typ) (Ai:List Int) (Ae:List Int):Option (Bool) :=
  Qab (Qcl fu Ai) λAb=>Qab (Qcl fu Ae) λAa=>Qab (ix Ab 0) λAh=>Qab (ix Aa 0) λAg=>bif (decide (Ah≤Ag)) then Qab (ix Ab 1) λAd=>Qab (ix Aa 1) λAj=>bif (decide (Ad≤Aj)) then Qab (ix Ab 2) λAf=>Qab (ix Aa 2) λAc=>bif (decide (Af≤Ac)) then some (decide (x1.fQ≤t2.fQ)) else some (false) else some (false) else some (false)
def Qsi (fu:Nat) (x1:Item) (t2:Typ):Option (Bool) :=
  Qtr fu x1 t2 (([x1.fW,x1.fH,x1.fD]:List Int)) (([t2.fW,t2.fH,t2.fD]:List Int))
def Qqp (fu:Nat) (x1:Item) (x2:Typ):Option (Bool) :=
  Qab (Qsi fu x1 x2) λx8=>some (!x8)
def Qqx (fu:Nat) (t1:Typ) (x2:Pallet):Option (Bool) :=
  bif (decide (t1.fW>x2.fW)) then some (true) else bif (decide (t1.fD>x2.fD)) then some (true) else bif (decide (t1.fH>x2.fH)) then some (true) else some (decide ((w64 (t1.qQ+t1.fQ))>x2.fQ))
def Qq5 (fu:Nat) (r1:Request):Option (Int) :=
  Qab (Qh8 fu r1) λAa=>Qab (Qov fu r1) λAb=>bif (!Ab) then some (2) else Qab (Qqd fu r1) λAd=>bif (!Ad) then some (3) else Qab (Qqo fu r1.fR r1.fG) λAh=>bif (!Ah) then some (4) else Qab (Qa5 fu r1.fV (λAe=>Qqp fu Ae Aa.1)) λAf=>bif Af then some (5) else Qab (Qav fu r1.fU (λAg=>Qqx fu Ag r1.fJ)) λAc=>bif Ac then some (6) else some (0)
def Qqj (fu:Nat) (Aa:ByteArray):Option (Int) :=
  Qab (Qis fu Aa) λx2=>bif (decide (x2.2≥0)) then some (1) else Qab (Qq5 fu x2.1) λAb=>some (Ab)
def Qfp (fu:Nat) (r1:Request):Option (Bool) :=
  Qab (Qq5 fu r1) λAa=>some (Aa==0)
def Qcw (fu:Nat) (Aa:List Int):Option ((List Int)) :=
  Qab (Qc7 8 (([]:List Int)) Aa) λAb=>some (Ab)
def Qh1 (fu:Nat) (x1:List Int):Option (List Int):=Jld x1
def Qjb (fu:Nat) (Aa:List Int):Option ((List Int)) :=
  Qab (Qcw fu Aa) λx5=>Qab (Qcl fu x5) λAb=>Qab (Qh1 fu Ab) λAc=>some (Ac)
def Qng (fu:Nat)  (r1:Request) (k1:List Int→Int→Option ((List Int))) (Ab:List Int) (Aa:Int):Option ((List Int)) :=
  bif (decide (Aa<(r1.fV.length:Int))) then Qab (ix r1.fV Aa) λAd=>Qab (Qc7 8 Ab (([Ad.fK]:List Int))) λAe=>k1 Ae (w64 (Aa+1)) else Qab (Qjb fu Ab) λAc=>some (Ac)
def Qgq (fu:Nat)  (r1:Request):Nat→List Int→Int→Option ((List Int))
  | 0=>λ_ _=>none
  | n+1=>Qng fu r1 (Qgq fu r1 n)
def Qqt (fu:Nat) (r1:Request):Option ((List Int)) :=
  Qab (Qfp fu r1) λAa=>bif (!Aa) then some (([]:List Int)) else Qgq fu r1 fu (([]:List Int)) 0
def Qr7 (fu:Nat) (Aa:List Pair) (a5:Int) (b6:Int):Option (Bool) :=
  Qab (Qhq fu Aa a5 b6) λx7=>bif x7 then Qab (Qhq fu Aa b6 a5) λAb=>some (Ab) else some (false)
def Qke (fu:Nat) (x1:Int) (x2:List Pair) (x8:Int):Option (Bool) :=
  Qab (Qr7 fu x2 x8 x1) λAa=>some (!Aa)
def Qe0 (fu:Nat)  (Ab:List Int) (f5:Int→Option Bool) (k1:Int→Option (Int)) (Aa:Int):Option (Int) :=
  bif (decide (Aa<(Ab.length:Int))) then Qab (ix Ab Aa) λAc=>Qab (f5 Ac) λAd=>bif Ad then some (Aa) else k1 (w64 (Aa+1)) else some ((-1))
def Qb5 (fu:Nat)  (Aa:List Int) (f5:Int→Option Bool):Nat→Int→Option (Int)
  | 0=>λ_=>none
  | n+1=>Qe0 fu Aa f5 (Qb5 fu Aa f5 n)
def Qdk (fu:Nat) (Aa:List Int) (f5:Int→Option Bool):Option (Int) :=
  Qb5 fu Aa f5 fu 0
def Qd1 (fu:Nat) (Aa:List Int) (f5:Int→Option Bool):Option (Bool) :=
  Qab (Qdk fu Aa f5) λAb=>some (decide (Ab≥0))
def Qo4 (fu:Nat) (l1:List Int) (x5:List Pair) (Aa:Int):Option (Bool) :=
  Qab (Qd1 fu l1 (λAc=>Qke fu Ac x5 Aa)) λAb=>some (!Ab)
def Qes (fu:Nat)  (Ab:List (List Int)) (f5:(List Int)→Option Bool) (k1:Int→Option (Int)) (Aa:Int):Option (Int) :=
  bif (decide (Aa<(Ab.length:Int))) then Qab (ix Ab Aa) λAc=>Qab (f5 Ac) λAd=>bif Ad then some (Aa) else k1 (w64 (Aa+1)) else some ((-1))
def Qbv (fu:Nat)  (Aa:List (List Int)) (f5:(List Int)→Option Bool):Nat→Int→Option (Int)
  | 0=>λ_=>none
  | n+1=>Qes fu Aa f5 (Qbv fu Aa f5 n)
def Qc4 (fu:Nat) (Aa:List (List Int)) (f5:(List Int)→Option Bool):Option (Int) :=
  Qbv fu Aa f5 fu 0
def Qio (fu:Nat) (k3:List (List Int)→Int→Option ((List (List Int)))) (Aa:Int) (Ab:List (List Int)):Option ((List (List Int))) :=
  k3 Ab (w64 (Aa+1))
def Qnu (fu:Nat)  (Ai:List Pair) (Ae:(List Int)) (k3:List (List Int)→Int→Option ((List (List Int)))) (Aa:List (List Int)) (Ab:Int):Option ((List (List Int))) :=
  bif (decide (Ab<(Ae.length:Int))) then Qab (ix Ae Ab) λAd=>Qab (Qat fu Ad 0 3) λAj=>bif (!Aj) then Qio fu k3 Ab Aa else Qab (Qc4 fu Aa (λAh=>Qo4 fu Ah Ai Ad)) λAc=>bif (decide (Ac<0)) then Qab (Qc7 24 Aa [([Ad]:List Int)]) λAg=>Qio fu k3 Ab Ag else Qab (ix Aa Ac) λAf=>Qab (Qc7 8 Af (([Ad]:List Int))) λAk=>Qab (ix Aa Ac) λAl=>Qio fu k3 Ab (Qi0 Aa Ac Ak) else some (Aa)
def Qeo (fu:Nat)  (Ab:List Pair) (Aa:(List Int)):Nat→List (List Int)→Int→Option ((List (List Int)))
  | 0=>λ_ _=>none
  | n+1=>Qnu fu Ab Aa (Qeo fu Ab Aa n)
def Qr3 (fu:Nat) (Ac:List Pair) (Aa:List Int):Option ((List (List Int))) :=
  Qab (Qjb fu Aa) λAb=>Qeo fu Ac Ab fu (([]:List (List Int))) 0
def Qhw (fu:Nat) (r1:Request):Option ((List (List Int))) :=
  Qab (Qfp fu r1) λAa=>bif (!Aa) then some (([]:List (List Int))) else Qab (Qqt fu r1) λAb=>Qab (Qr3 fu r1.fR Ab) λAc=>some (Ac)
def Qxg (fu:Nat) (x1:Int) (y2:Int):Option (Int×Int) :=
  some (IntKind.wrap .u64 ((IntKind.wrap .u64 ((IntKind.wrap .u64 ((Int.fdiv x1 (2 ^ (min 32 (IntKind.bits .u64))))*(Int.fdiv y2 (2 ^ (min 32 (IntKind.bits .u64))))))+(Int.fdiv (IntKind.wrap .u64 ((IntKind.wrap .u64 ((Int.fdiv x1 (2 ^ (min 32 (IntKind.bits .u64))))*(IntKind.wrap .u64 (((BitVec.ofInt (IntKind.bits .u64) y2 &&& BitVec.ofInt (IntKind.bits .u64) 4294967295).toNat:Nat):Int))))+(Int.fdiv (IntKind.wrap .u64 ((IntKind.wrap .u64 (((BitVec.ofInt (IntKind.bits .u64) x1 &&& BitVec.ofInt (IntKind.bits .u64) 4294967295).toNat:Nat):Int))*(IntKind.wrap .u64 (((BitVec.ofInt (IntKind.bits .u64) y2 &&& BitVec.ofInt (IntKind.bits .u64) 4294967295).toNat:Nat):Int)))) (2 ^ (min 32 (IntKind.bits .u64)))))) (2 ^ (min 32 (IntKind.bits .u64))))))+(Int.fdiv (IntKind.wrap .u64 ((IntKind.wrap .u64 (((BitVec.ofInt (IntKind.bits .u64) (IntKind.wrap .u64 ((IntKind.wrap .u64 ((Int.fdiv x1 (2 ^ (min 32 (IntKind.bits .u64))))*(IntKind.wrap .u64 (((BitVec.ofInt (IntKind.bits .u64) y2 &&& BitVec.ofInt (IntKind.bits .u64) 4294967295).toNat:Nat):Int))))+(Int.fdiv (IntKind.wrap .u64 ((IntKind.wrap .u64 (((BitVec.ofInt (IntKind.bits .u64) x1 &&& BitVec.ofInt (IntKind.bits .u64) 4294967295).toNat:Nat):Int))*(IntKind.wrap .u64 (((BitVec.ofInt (IntKind.bits .u64) y2 &&& BitVec.ofInt (IntKind.bits .u64) 4294967295).toNat:Nat):Int)))) (2 ^ (min 32 (IntKind.bits .u64)))))) &&& BitVec.ofInt (IntKind.bits .u64) 4294967295).toNat:Nat):Int))+(IntKind.wrap .u64 ((IntKind.wrap .u64 (((BitVec.ofInt (IntKind.bits .u64) x1 &&& BitVec.ofInt (IntKind.bits .u64) 4294967295).toNat:Nat):Int))*(Int.fdiv y2 (2 ^ (min 32 (IntKind.bits .u64)))))))) (2 ^ (min 32 (IntKind.bits .u64))))),IntKind.wrap .u64 (x1*y2))
def Qw4 (fu:Nat) (x1:Int) (y2:Int):Option (Int×Int) :=
  Qab (Qxg fu x1 y2) λx3=>some (x3.1,x3.2)
def Qr8 (fu:Nat)   (k3:List Int→Int→Option ((List Int))) (Aa:List Int) (Ab:Int):Option ((List Int)) :=
  bif (decide (Ab<(Aa.length:Int))) then Qab (sls Aa Ab (Aa.length:Int)) λAd=>Qab (sls Aa 0 Ab) λAc=>k3 (cpd Aa Ab Ac) (w64 (Ab+(cpn Aa Ab Ac))) else some (Aa)
def Qhf (fu:Nat)   : Nat→List Int→Int→Option ((List Int))
  | 0=>λ_ _=>none
  | n+1=>Qr8 fu  (Qhf fu  n)
def Qbp (fu:Nat) (x1:List Int) (x8:Int×Int)  : Option ((List Int)) :=
  Qab (mk 8 (0:Int) (w64 x8.2)) λAa=>Qhf fu fu (cpd Aa 0 x1) (cpn Aa 0 x1)
def Qhd (fu:Nat) (x1:List Int) (Aa:Int)  : Option ((List Int)) :=
  Qab (Qw4 fu (IntKind.wrap .u64 (x1.length:Int)) (IntKind.wrap .u64 Aa)) λx8=>bif (decide (x8.1>0)) then none else bif (decide (x8.2>9223372036854775807)) then none else Qbp fu x1 x8
def Qgl (fu:Nat) (x1:List Int) (Aa:Int):Option ((List Int)) :=
  bif (decide (Aa<0)) then none else Qhd fu x1 Aa
def Qps (fu:Nat)  (r1:Request) (k1:List Int→Int→Option ((List Int))) (Ab:List Int) (Aa:Int):Option ((List Int)) :=
  bif (decide (Aa<(r1.fV.length:Int))) then Qab (ix r1.fV Aa) λAc=>Qab (Qgl fu (([Aa]:List Int)) Ac.fF) λAe=>Qab (Qc7 8 Ab Ae) λAd=>k1 Ad (w64 (Aa+1)) else some (Ab)
def Qhx (fu:Nat)  (r1:Request):Nat→List Int→Int→Option ((List Int))
  | 0=>λ_ _=>none
  | n+1=>Qps fu r1 (Qhx fu r1 n)
def Qno (fu:Nat) (r1:Request):Option ((List Int)) :=
  Qab (Qfp fu r1) λAa=>bif (!Aa) then some (([]:List Int)) else Qhx fu r1 fu (([]:List Int)) 0
def Qg3 (fu:Nat)  (Ab:List Int) (v5:Int) (k1:Int→Option (Int)) (Aa:Int):Option (Int) :=
  bif (decide (Aa<(Ab.length:Int))) then Qab (ix Ab Aa) λAc=>bif (v5==Ac) then some (Aa) else k1 (w64 (Aa+1)) else some ((-1))
def Qct (fu:Nat)  (Aa:List Int) (v5:Int):Nat→Int→Option (Int)
  | 0=>λ_=>none
  | n+1=>Qg3 fu Aa v5 (Qct fu Aa v5 n)
def Qiy (fu:Nat) (Aa:List Int) (v5:Int):Option (Int) :=
  Qct fu Aa v5 fu 0
def Qfk (fu:Nat) (Aa:List Int) (v5:Int):Option (Bool) :=
  Qab (Qiy fu Aa v5) λx6=>some (decide (x6≥0))
def Qkd (fu:Nat) (k3:List Int→Int→Option ((List Int))) (Ab:Int) (Aa:List Int):Option ((List Int)) :=
  k3 Aa (w64 (Ab+1))
def Qmq (fu:Nat)  (r1:Request) (Aj:Int) (Ah:(List (List Int))) (Ac:(List Int)) (k3:List Int→Int→Option ((List Int))) (Ab:List Int) (Aa:Int):Option ((List Int)) :=
  bif (decide (Aa<(Ac.length:Int))) then Qab (ix Ac Aa) λAi=>Qab (ix Ah Aj) λAf=>Qab (ix r1.fV Ai) λAg=>Qab (Qfk fu Af Ag.fK) λAe=>bif Ae then Qab (Qc7 8 Ab (([Aa]:List Int))) λAd=>Qkd fu k3 Aa Ad else Qkd fu k3 Aa Ab else some (Ab)
def Qe4 (fu:Nat)  (r1:Request) (Aa:Int) (Ac:(List (List Int))) (Ab:(List Int)):Nat→List Int→Int→Option ((List Int))
  | 0=>λ_ _=>none
  | n+1=>Qmq fu r1 Aa Ac Ab (Qe4 fu r1 Aa Ac Ab n)
def Qqn (fu:Nat) (r1:Request) (Ab:Int):Option ((List Int)) :=
  Qab (Qhw fu r1) λAa=>Qab (Qat fu Ab 0 (w64 ((Aa.length:Int) - 1))) λAd=>bif (!Ad) then some (([]:List Int)) else Qab (Qno fu r1) λAc=>Qe4 fu r1 Ab Aa Ac fu (([]:List Int)) 0
def Qq8 (fu:Nat) (u1:Int) (x2:Int):Option (Bool) :=
  Qab (Qat fu u1 0 (w64 (x2 - 1))) λx5=>some (!x5)
def Qdt (fu:Nat) (k3:List Int→Int→Int→Option ((List Int))) (Ac:Int) (Aa:List Int) (Ab:Int):Option ((List Int)) :=
  k3 Aa Ab (w64 (Ac+1))
def Qer (fu:Nat)  (f5:Int→Option Bool) (k3:List Int→Int→Int→Option ((List Int))) (Aa:List Int) (Ab:Int) (Ac:Int):Option ((List Int)) :=
  bif (decide (Ac<(Aa.length:Int))) then Qab (ix Aa Ac) λAd=>Qab (f5 Ad) λAf=>bif (!Af) then Qab (ix Aa Ab) λAg=>Qdt fu k3 Ac (Qi0 Aa Ab Ad) (w64 (Ab+1)) else Qdt fu k3 Ac Aa Ab else Qab (sls Aa Ab (Aa.length:Int)) λAh=>Qab (sls (Q48 Aa Ab) 0 Ab) λAe=>some (Ae)
def Qbk (fu:Nat)  (f5:Int→Option Bool):Nat→List Int→Int→Int→Option ((List Int))
  | 0=>λ_ _ _=>none
  | n+1=>Qer fu f5 (Qbk fu f5 n)
def Qek (fu:Nat) (Aa:List Int) (f5:Int→Option Bool):Option ((List Int)) :=
  Qab (Qdk fu Aa f5) λAb=>bif (Ab==((-1))) then some (Aa) else Qbk fu f5 fu Aa Ab (w64 (Ab+1))
def Qiv (fu:Nat) (r1:Request) (Ae:List Int):Option ((List Int)) :=
  Qab (Qno fu r1) λAc=>Qab (Qcw fu Ae) λAa=>Qab (Qek fu Aa (λAd=>Qq8 fu Ad (Ac.length:Int))) λAb=>some (Ab)
def Qj7 (fu:Nat) (k3:List Item→Int→Option ((List Item))) (Ab:Int) (Aa:List Item):Option ((List Item)) :=
  k3 Aa (w64 (Ab+1))
def Qmt (fu:Nat)  (r1:Request) (Ae:List Int) (Ad:(List Int)) (k3:List Item→Int→Option ((List Item))) (Ab:List Item) (Aa:Int):Option ((List Item)) :=
  bif (decide (Aa<(Ae.length:Int))) then Qab (ix Ae Aa) λAc=>Qab (Qat fu Ac 0 (w64 ((Ad.length:Int) - 1))) λAi=>bif Ai then Qab (ix Ad Ac) λAf=>Qab (ix r1.fV Af) λAh=>Qab (Qc7 56 Ab (([Ah]:List Item))) λAg=>Qj7 fu k3 Aa Ag else Qj7 fu k3 Aa Ab else some (Ab)
def Qfc (fu:Nat)  (r1:Request) (Ab:List Int) (Aa:(List Int)):Nat→List Item→Int→Option ((List Item))
  | 0=>λ_ _=>none
  | n+1=>Qmt fu r1 Ab Aa (Qfc fu r1 Ab Aa n)
def Qiu (fu:Nat) (r1:Request) (Ab:List Int):Option ((List Item)) :=
  Qab (Qno fu r1) λAa=>Qfc fu r1 Ab Aa fu (([]:List Item)) 0
def Qrj (fu:Nat) (Aa:Int) (h2:Int) (d3:Int)  : Option (Int) :=
  some (w64 ((w64 (Aa*h2))*d3))
def Qoe (fu:Nat) (Aa:Int) (h2:Int) (d3:Int):Option (Int) :=
  Qab (Qat fu Aa 0 2000) λAc=>bif (!Ac) then some (0) else Qab (Qat fu h2 0 2000) λAd=>bif (!Ad) then some (0) else Qab (Qat fu d3 0 2000) λAb=>bif (!Ab) then some (0) else Qrj fu Aa h2 d3
def Qkx (fu:Nat)  (Ad:(List Item)) (k1:Int→Int→Option (Int)) (Ac:Int) (Ab:Int):Option (Int) :=
  bif (decide (Ab<(Ad.length:Int))) then Qab (ix Ad Ab) λAa=>Qab (Qoe fu Aa.fW Aa.fH Aa.fD) λAe=>k1 (w64 (Ac+Ae)) (w64 (Ab+1)) else some (Ac)
def Qfw (fu:Nat)  (Aa:(List Item)):Nat→Int→Int→Option (Int)
  | 0=>λ_ _=>none
  | n+1=>Qkx fu Aa (Qfw fu Aa n)
def Qjh (fu:Nat) (r1:Request) (Ab:List Int):Option (Int) :=
  Qab (Qiu fu r1 Ab) λAa=>Qfw fu Aa fu 0 0
def Qot (fu:Nat)  (Ab:(List Item)) (k1:Int→Int→Option (Int)) (Ac:Int) (Aa:Int):Option (Int) :=
  bif (decide (Aa<(Ab.length:Int))) then Qab (ix Ab Aa) λAd=>k1 (w64 (Ac+Ad.fQ)) (w64 (Aa+1)) else some (Ac)
def Qhj (fu:Nat)  (Aa:(List Item)):Nat→Int→Int→Option (Int)
  | 0=>λ_ _=>none
  | n+1=>Qot fu Aa (Qhj fu Aa n)
def Qou (fu:Nat) (r1:Request) (Ab:List Int):Option (Int) :=
  Qab (Qiu fu r1 Ab) λAa=>Qhj fu Aa fu 0 0
def Qpf (fu:Nat) (r1:Request) (Aa:List Int) (t9:Typ):Option (Bool) :=
  Qab (Qjh fu r1 Aa) λAd=>Qab (Qoe fu t9.fW t9.fH t9.fD) λAb=>bif (decide (Ad≤Ab)) then Qab (Qou fu r1 Aa) λAc=>some (decide (Ac≤t9.fQ)) else some (false)
def Qsp (fu:Nat) (r1:Request) (Ac:List Int) (u9:Int):Option (Bool) :=
  Qab (Qh8 fu r1) λAf=>Qab (Qfp fu r1) λAe=>bif Ae then Qab (Qcw fu Ac) λAb=>Qab (Qc7 8 Ab (([u9]:List Int))) λAd=>Qab (Qpf fu r1 Ad Af.1) λAa=>some (Aa) else some (false)
def Qh2 (fu:Nat) (k3:List (List Int)→Int→Option ((List (List Int)))) (Aa:Int) (Ab:List (List Int)):Option ((List (List Int))) :=
  k3 Ab (w64 (Aa+1))
def Qmp (fu:Nat)  (r1:Request) (Ae:(List Int)) (k3:List (List Int)→Int→Option ((List (List Int)))) (Aa:List (List Int)) (Ab:Int):Option ((List (List Int))) :=
  bif (decide (Ab<(Ae.length:Int))) then Qab (ix Ae Ab) λAc=>bif (decide ((w64 ((Aa.length:Int) - 1))≥0)) then Qab (ix Aa (w64 ((Aa.length:Int) - 1))) λAd=>Qab (Qsp fu r1 Ad Ac) λAi=>bif Ai then Qab (ix Aa (w64 ((Aa.length:Int) - 1))) λAk=>Qab (Qc7 8 Ad (([Ac]:List Int))) λAh=>Qab (ix Aa (w64 ((Aa.length:Int) - 1))) λAj=>Qh2 fu k3 Ab (Qi0 Aa (w64 ((Aa.length:Int) - 1)) Ah) else Qab (Qc7 24 Aa [([Ac]:List Int)]) λAf=>Qh2 fu k3 Ab Af else Qab (Qc7 24 Aa [([Ac]:List Int)]) λAg=>Qh2 fu k3 Ab Ag else some (Aa)
def Qea (fu:Nat)  (r1:Request) (Aa:(List Int)):Nat→List (List Int)→Int→Option ((List (List Int)))
  | 0=>λ_ _=>none
  | n+1=>Qmp fu r1 Aa (Qea fu r1 Aa n)
def Qqk (fu:Nat) (r1:Request) (Ab:List Int):Option ((List (List Int))) :=
  Qab (Qiv fu r1 Ab) λAa=>Qea fu r1 Aa fu (([]:List (List Int))) 0
def Qn4 (fu:Nat)  (n1:Int) (k1:List Int→Int→Option ((List Int))) (Ab:List Int) (Aa:Int):Option ((List Int)) :=
  bif (decide (Aa<n1)) then Qab (Qc7 8 Ab (([Aa]:List Int))) λAc=>k1 Ac (w64 (Aa+1)) else some (Ab)
def Qhm (fu:Nat)  (n1:Int):Nat→List Int→Int→Option ((List Int))
  | 0=>λ_ _=>none
  | n+1=>Qn4 fu n1 (Qhm fu n1 n)
def Qrv (fu:Nat) (n1:Int):Option ((List Int)) :=
  Qhm fu n1 fu (([]:List Int)) 0
def Qqz (fu:Nat) (a1:Int) (b2:Int):Option (Int) :=
  bif (decide (a1<b2)) then some ((-1)) else bif (decide (a1>b2)) then some (1) else some (0)
def Qe1 (fu:Nat) (i1:Int) (j2:Int) (x3:List Int):Option (Int) :=
  Qab (ix x3 j2) λAa=>Qab (ix x3 i1) λAb=>Qab (Qqz fu Aa Ab) λAc=>some (Ac)
def Qdu (fu:Nat) (Ad:List Int→Int→Option ((List Int))) (Ab:List Int) (Aa:Int)  : Option ((List Int)) :=
  Qab (ix Ab (w64 (Aa - 1))) λAc=>Qab (ix Ab Aa) λAe=>Qab (ix Ab Aa) λAf=>Qab (ix (Qi0 Ab Aa Ac) (w64 (Aa - 1))) λAg=>Ad (Qi0 (Qi0 Ab Aa Ac) (w64 (Aa - 1)) Ae) (w64 (Aa - 1))
def Qdg (fu:Nat) (k9:List Int→Int→Option ((List Int))) (a5:Int) (f7:Int→Int→Option Int) (Ac:Int) (Af:List Int→Int→Option ((List Int))) (Aa:List Int) (Ab:Int):Option ((List Int)) :=
  bif (decide (Ab>a5)) then Qab (ix Aa Ab) λAd=>Qab (ix Aa (w64 (Ab - 1))) λAg=>Qab (f7 Ad Ag) λAe=>bif (decide (Ae<0)) then Qdu fu Af Aa Ab else k9 Aa (w64 (Ac+1)) else k9 Aa (w64 (Ac+1))
def Qa6 (fu:Nat) (k9:List Int→Int→Option ((List Int))) (a5:Int) (f7:Int→Int→Option Int) (Aa:Int):Nat→List Int→Int→Option ((List Int))
  | 0=>λ_ _=>none
  | n+1=>Qdg fu k9 a5 f7 Aa (Qa6 fu k9 a5 f7 Aa n)
def Qb8 (fu:Nat)  (a5:Int) (b6:Int) (f7:Int→Int→Option Int) (k9:List Int→Int→Option ((List Int))) (Ab:List Int) (Aa:Int):Option ((List Int)) :=
  bif (decide (Aa<b6)) then Qa6 fu k9 a5 f7 Aa fu Ab Aa else some (Ab)
def Qak (fu:Nat)  (a5:Int) (b6:Int) (f7:Int→Int→Option Int):Nat→List Int→Int→Option ((List Int))
  | 0=>λ_ _=>none
  | n+1=>Qb8 fu a5 b6 f7 (Qak fu a5 b6 f7 n)
def Qb7 (fu:Nat) (Aa:List Int) (a5:Int) (b6:Int) (f7:Int→Int→Option Int):Option ((List Int)) :=
  Qak fu a5 b6 f7 fu Aa (w64 (a5+1))
def Qgg (fu:Nat) (x0:List Int) (x1:Int) (x2:Int) (x3:Int) (x4:Int→Int→Option Int):Option ((List Int)):=none
def Qgc (fu:Nat) (k6:List Int→Int→Option ((List Int))) (Aa:Int) (Ab:List Int):Option ((List Int)) :=
  k6 Ab (w64 (Aa*2))
def Qpz (fu:Nat) (k6:List Int→Int→Option ((List Int))) (n5:Int) (f6:Int→Int→Option Int) (Aa:Int) (k7:List Int→Int→Int→Option ((List Int))) (Ad:List Int) (Ab:Int) (Ac:Int):Option ((List Int)) :=
  bif (decide (Ac≤n5)) then Qab (Qgg fu Ad Ab (w64 (Ab+Aa)) Ac f6) λAe=>k7 Ae Ac (w64 (Ac+(w64 (2*Aa)))) else bif (decide ((w64 (Ab+Aa))<n5)) then Qab (Qgg fu Ad Ab (w64 (Ab+Aa)) n5 f6) λAf=>Qgc fu k6 Aa Af else Qgc fu k6 Aa Ad
def Qf7 (fu:Nat) (k6:List Int→Int→Option ((List Int))) (n5:Int) (f6:Int→Int→Option Int) (Aa:Int):Nat→List Int→Int→Int→Option ((List Int))
  | 0=>λ_ _ _=>none
  | n+1=>Qpz fu k6 n5 f6 Aa (Qf7 fu k6 n5 f6 Aa n)
def Qh6 (fu:Nat)  (n5:Int) (f6:Int→Int→Option Int) (k6:List Int→Int→Option ((List Int))) (Ab:List Int) (Aa:Int):Option ((List Int)) :=
  bif (decide (Aa<n5)) then Qf7 fu k6 n5 f6 Aa fu Ab 0 (w64 (2*Aa)) else some (Ab)
def Qb2 (fu:Nat)  (n5:Int) (f6:Int→Int→Option Int):Nat→List Int→Int→Option ((List Int))
  | 0=>λ_ _=>none
  | n+1=>Qh6 fu n5 f6 (Qb2 fu n5 f6 n)
def Qhz (fu:Nat)  (n5:Int) (f6:Int→Int→Option Int) (k1:List Int→Int→Int→Option ((List Int))) (Ac:List Int) (Ab:Int) (Aa:Int):Option ((List Int)) :=
  bif (decide (Aa≤n5)) then Qab (Qb7 fu Ac Ab Aa f6) λAd=>k1 Ad Aa (w64 (Aa+20)) else Qab (Qb7 fu Ac Ab n5 f6) λAe=>Qb2 fu n5 f6 fu Ae 20
def Qd0 (fu:Nat)  (n5:Int) (f6:Int→Int→Option Int):Nat→List Int→Int→Int→Option ((List Int))
  | 0=>λ_ _ _=>none
  | n+1=>Qhz fu n5 f6 (Qd0 fu n5 f6 n)
def Qhe (fu:Nat) (Aa:List Int) (n5:Int) (f6:Int→Int→Option Int):Option ((List Int)) :=
  Qd0 fu n5 f6 fu Aa 0 20
def Qe8 (fu:Nat) (x1:List Int) (f5:Int→Int→Option Int):Option ((List Int)) :=
  Qab (Qhe fu x1 (x1.length:Int) f5) λAa=>some (Aa)
def Qg4 (fu:Nat) (Aa:List Int):Option ((List Int)) :=
  Qab (Qrv fu (Aa.length:Int)) λx8=>Qab (Qe8 fu x8 (λAb Ad=>Qe1 fu Ab Ad Aa)) λAc=>some (Ac)
def Qj2 (fu:Nat) (l1:List Int) (x5:Request) (Aa:Int):Option (Bool) :=
  Qab (Qsp fu x5 l1 Aa) λAb=>some (Ab)
def Qi1 (fu:Nat) (k4:List (List Int)→Int→Option ((List (List Int)))) (Aa:Int) (Ab:List (List Int)):Option ((List (List Int))) :=
  k4 Ab (w64 (Aa+1))
def Qk6 (fu:Nat)  (r1:Request) (Ai:(List Int)) (Ae:(List Int)) (k4:List (List Int)→Int→Option ((List (List Int)))) (Aa:List (List Int)) (Ab:Int):Option ((List (List Int))) :=
  bif (decide (Ab<(Ae.length:Int))) then Qab (ix Ae Ab) λAf=>Qab (ix Ai Af) λAd=>Qab (Qc4 fu Aa (λAk=>Qj2 fu Ak r1 Ad)) λAc=>bif (decide (Ac<0)) then Qab (Qc7 24 Aa [([Ad]:List Int)]) λAg=>Qi1 fu k4 Ab Ag else Qab (ix Aa Ac) λAh=>Qab (Qc7 8 Ah (([Ad]:List Int))) λAj=>Qab (ix Aa Ac) λAl=>Qi1 fu k4 Ab (Qi0 Aa Ac Aj) else some (Aa)
def Qck (fu:Nat)  (r1:Request) (Aa:(List Int)) (Ab:(List Int)):Nat→List (List Int)→Int→Option ((List (List Int)))
  | 0=>λ_ _=>none
  | n+1=>Qk6 fu r1 Aa Ab (Qck fu r1 Aa Ab n)
def Qkp (fu:Nat)  (r1:Request) (Ab:(List Int)) (k1:List Int→Int→Option ((List (List Int)))) (Ac:List Int) (Aa:Int):Option ((List (List Int))) :=
  bif (decide (Aa<(Ab.length:Int))) then Qab (ix Ab Aa) λAe=>Qab (Qjh fu r1 (([Ae]:List Int))) λAg=>Qab (Qc7 8 Ac (([Ag]:List Int))) λAd=>k1 Ad (w64 (Aa+1)) else Qab (Qg4 fu Ac) λAf=>Qck fu r1 Ab Af fu (([]:List (List Int))) 0
def Qft (fu:Nat)  (r1:Request) (Aa:(List Int)):Nat→List Int→Int→Option ((List (List Int)))
  | 0=>λ_ _=>none
  | n+1=>Qkp fu r1 Aa (Qft fu r1 Aa n)
def Qof (fu:Nat) (r1:Request) (Ab:List Int):Option ((List (List Int))) :=
  Qab (Qiv fu r1 Ab) λAa=>Qft fu r1 Aa fu (([]:List Int)) 0
def Qqs (fu:Nat) (r1:Request) (Aa:List Int):Option ((List (List Int))) :=
  bif (r1.f0==1) then Qab (Qqk fu r1 Aa) λAc=>some (Ac) else Qab (Qof fu r1 Aa) λAb=>some (Ab)
def Qtm (fu:Nat) (x1:Item) (x2:Typ):Option (Bool) :=
  Qab (Qsi fu x1 x2) λx8=>some (!x8)
def Qso (fu:Nat) (r1:Request) (Aa:List Int) (t9:Typ)  : Option (Bool) :=
  Qab (Qiu fu r1 Aa) λAe=>Qab (Qa5 fu Ae (λAc=>Qtm fu Ac t9)) λAb=>bif (!Ab) then Qab (Qpf fu r1 Aa t9) λAd=>some (Ad) else some (false)
def Qs7 (fu:Nat) (r1:Request) (Aa:List Int) (t9:Typ):Option (Bool) :=
  Qab (Qfp fu r1) λAb=>bif (!Ab) then some (false) else Qab (Qiv fu r1 Aa) λAc=>bif ((Ac.length:Int) != (Aa.length:Int)) then some (false) else Qso fu r1 Aa t9
def Qdn (fu:Nat) (k3:Typ→Bool→Int→Option (Typ×Bool)) (Ab:Int) (Ac:Typ) (Aa:Bool):Option (Typ×Bool) :=
  k3 Ac Aa (w64 (Ab+1))
def Qkz (fu:Nat)  (r1:Request) (Af:List Int) (k3:Typ→Bool→Int→Option (Typ×Bool)) (Ac:Typ) (Ad:Bool) (Aa:Int):Option (Typ×Bool) :=
  bif (decide (Aa<(r1.fU.length:Int))) then Qab (ix r1.fU Aa) λAb=>Qab (Qs7 fu r1 Af Ab) λAe=>bif (!Ae) then Qdn fu k3 Aa Ac Ad else bif (!Ad) then Qdn fu k3 Aa Ab true else bif (decide (Ab.fl<Ac.fl)) then Qdn fu k3 Aa Ab true else bif (Ab.fl==Ac.fl) then bif (decide (Ab.ft<Ac.ft)) then Qdn fu k3 Aa Ab true else Qdn fu k3 Aa Ac Ad else Qdn fu k3 Aa Ac Ad else some (Ac,Ad)
def Qej (fu:Nat)  (r1:Request) (Aa:List Int):Nat→Typ→Bool→Int→Option (Typ×Bool)
  | 0=>λ_ _ _=>none
  | n+1=>Qkz fu r1 Aa (Qej fu r1 Aa n)
def Qoq (fu:Nat) (r1:Request) (Aa:List Int):Option (Typ×Bool) :=
  Qej fu r1 Aa fu (⟨0,0,0,0,0,0,0⟩:Typ) false 0
def Qjk (fu:Nat) (k3:List Carton→Int→Option ((List Carton))) (r1:Request) (Ab:Int) (Ac:(List (List Int))) (k4:List Carton→Int→Option ((List Carton))) (Ae:List Carton) (Aa:Int):Option ((List Carton)) :=
  bif (decide (Aa<(Ac.length:Int))) then Qab (ix Ac Aa) λAd=>Qab (Qoq fu r1 Ad) λAh=>Qab (Qcl fu Ad) λAf=>Qab (Qc7 40 Ae [(⟨Ah.1.ft,Ab,Af⟩:Carton)]) λAg=>k4 Ag (w64 (Aa+1)) else k3 Ae (w64 (Ab+1))
def Qfd (fu:Nat) (k3:List Carton→Int→Option ((List Carton))) (r1:Request) (Aa:Int) (Ab:(List (List Int))):Nat→List Carton→Int→Option ((List Carton))
  | 0=>λ_ _=>none
  | n+1=>Qjk fu k3 r1 Aa Ab (Qfd fu k3 r1 Aa Ab n)
def Qjs (fu:Nat)  (r1:Request) (Ae:(List (List Int))) (k3:List Carton→Int→Option ((List Carton))) (Ab:List Carton) (Aa:Int):Option ((List Carton)) :=
  bif (decide (Aa<(Ae.length:Int))) then Qab (Qqn fu r1 Aa) λAc=>Qab (Qqs fu r1 Ac) λAd=>Qfd fu k3 r1 Aa Ad fu Ab 0 else some (Ab)
def Qcp (fu:Nat)  (r1:Request) (Aa:(List (List Int))):Nat→List Carton→Int→Option ((List Carton))
  | 0=>λ_ _=>none
  | n+1=>Qjs fu r1 Aa (Qcp fu r1 Aa n)
def Qlp (fu:Nat) (r1:Request):Option ((List Carton)) :=
  Qab (Qhw fu r1) λAa=>Qcp fu r1 Aa fu (([]:List Carton)) 0
def Qsk (fu:Nat) (r1:Request) (x5:Carton) (Ab:Typ×Bool)  : Option (Int) :=
  Qab (Qou fu r1 x5.fO) λAa=>some (w64 (Ab.1.qQ+Aa))
def Qtf (fu:Nat) (r1:Request) (x5:Carton):Option (Int) :=
  Qab (Qh5 fu r1 x5.qY) λAa=>bif (!Aa.2) then some (0) else Qab (Qfp fu r1) λAb=>bif (!Ab) then some (0) else Qsk fu r1 x5 Aa
def Qsr (fu:Nat) (r1:Request) (x5:Carton) (Aa:Typ×Bool)  : Option (Box) :=
  Qab (Qtf fu r1 x5) λAb=>some (⟨Aa.1.fW,Aa.1.fD,Aa.1.fH,Ab⟩:Box)
def Qtb (fu:Nat) (r1:Request) (x5:Carton):Option (Box) :=
  Qab (Qh5 fu r1 x5.qY) λAa=>bif (!Aa.2) then some (⟨0,0,0,0⟩:Box) else Qab (Qfp fu r1) λAb=>bif (!Ab) then some (⟨0,0,0,0⟩:Box) else Qsr fu r1 x5 Aa
def Qlt (fu:Nat) (b1:Box) (x2:Pallet):Option (Bool) :=
  Qab (Qat fu b1.fW 1 x2.fW) λx8=>bif (!x8) then some (true) else Qab (Qat fu b1.fD 1 x2.fD) λAb=>bif (!Ab) then some (true) else Qab (Qat fu b1.fH 1 x2.fH) λAa=>bif (!Aa) then some (true) else Qab (Qat fu b1.fQ 1 x2.fQ) λAc=>some (!Ac)
def Qcx (fu:Nat)  (Ab:List Box) (f5:Box→Option Bool) (k1:Int→Option (Int)) (Aa:Int):Option (Int) :=
  bif (decide (Aa<(Ab.length:Int))) then Qab (ix Ab Aa) λAc=>Qab (f5 Ac) λAd=>bif Ad then some (Aa) else k1 (w64 (Aa+1)) else some ((-1))
def Qay (fu:Nat)  (Aa:List Box) (f5:Box→Option Bool):Nat→Int→Option (Int)
  | 0=>λ_=>none
  | n+1=>Qcx fu Aa f5 (Qay fu Aa f5 n)
def Qdv (fu:Nat) (Aa:List Box) (f5:Box→Option Bool):Option (Int) :=
  Qay fu Aa f5 fu 0
def Qb6 (fu:Nat) (Aa:List Box) (f5:Box→Option Bool):Option (Bool) :=
  Qab (Qdv fu Aa f5) λAb=>some (decide (Ab≥0))
def Qli (fu:Nat) (p1:Pallet) (Ac:List Box):Option (Bool) :=
  Qab (Qel fu p1) λAa=>bif Aa then Qab (Qb6 fu Ac (λAd=>Qlt fu Ad p1)) λAb=>some (!Ab) else some (false)
def Qpl (fu:Nat) (k8:List Shelf→Int→Option ((List Shelf))) (Ab:Int) (Aa:List Shelf):Option ((List Shelf)) :=
  k8 Aa (w64 (Ab+1))
def Qc9 (fu:Nat) (k8:List Shelf→Int→Option ((List Shelf))) (Aj:Int) (Ah:Int) (Ac:Box) (Ag:List Shelf) (Ad:Int):Option ((List Shelf)) :=
  Qab (ix Ag Ad) λAb=>Qab (Qc7 8 Ab.fM (([Ah]:List Int))) λAe=>Qab (some ((⟨(⟨Ae,Ab.fW,Ab.fD,Ab.fH,Ab.fQ⟩:Shelf).fM,w64 (((⟨Ae,Ab.fW,Ab.fD,Ab.fH,Ab.fQ⟩:Shelf).fW)+Ac.fW),(⟨Ae,Ab.fW,Ab.fD,Ab.fH,Ab.fQ⟩:Shelf).fD,(⟨Ae,Ab.fW,Ab.fD,Ab.fH,Ab.fQ⟩:Shelf).fH,(⟨Ae,Ab.fW,Ab.fD,Ab.fH,Ab.fQ⟩:Shelf).fQ⟩:Shelf))) λAa=>Qab (some (Qi0 (Qi0 Ag Ad (⟨Ae,Ab.fW,Ab.fD,Ab.fH,Ab.fQ⟩:Shelf)) Ad Aa)) λAi=>Qab (some ((⟨(⟨Aa.fM,Aa.fW,if Ac.fD>Aa.fD then Ac.fD else Aa.fD,Aa.fH,Aa.fQ⟩:Shelf).fM,(⟨Aa.fM,Aa.fW,if Ac.fD>Aa.fD then Ac.fD else Aa.fD,Aa.fH,Aa.fQ⟩:Shelf).fW,(⟨Aa.fM,Aa.fW,if Ac.fD>Aa.fD then Ac.fD else Aa.fD,Aa.fH,Aa.fQ⟩:Shelf).fD,if Ac.fH>((⟨Aa.fM,Aa.fW,if Ac.fD>Aa.fD then Ac.fD else Aa.fD,Aa.fH,Aa.fQ⟩:Shelf).fH) then Ac.fH else (⟨Aa.fM,Aa.fW,if Ac.fD>Aa.fD then Ac.fD else Aa.fD,Aa.fH,Aa.fQ⟩:Shelf).fH,(⟨Aa.fM,Aa.fW,if Ac.fD>Aa.fD then Ac.fD else Aa.fD,Aa.fH,Aa.fQ⟩:Shelf).fQ⟩:Shelf))) λAf=>Qab (some (Qi0 (Qi0 Ai Ad (⟨Aa.fM,Aa.fW,if Ac.fD>Aa.fD then Ac.fD else Aa.fD,Aa.fH,Aa.fQ⟩:Shelf)) Ad Af)) λAk=>Qpl fu k8 Aj (Qi0 Ak Ad (⟨Af.fM,Af.fW,Af.fD,Af.fH,w64 (Af.fQ+Ac.fQ)⟩:Shelf))
def Qnl (fu:Nat)  (p1:Pallet) (Ag:List Box) (Af:(List Int)) (k8:List Shelf→Int→Option ((List Shelf))) (Aa:List Shelf) (Ab:Int):Option ((List Shelf)) :=
  bif (decide (Ab<(Af.length:Int))) then Qab (ix Af Ab) λAd=>Qab (ix Ag Ad) λAc=>bif (decide ((w64 ((Aa.length:Int) - 1))<0)) then Qab (Qc7 56 Aa [(⟨[],0,0,0,0⟩:Shelf)]) λAi=>Qc9 fu k8 Ab Ad Ac Ai (w64 ((w64 ((Aa.length:Int) - 1))+1)) else Qab (ix Aa (w64 ((Aa.length:Int) - 1))) λAe=>bif (decide ((w64 (Ae.fW+Ac.fW))>p1.fW)) then Qab (Qc7 56 Aa [(⟨[],0,0,0,0⟩:Shelf)]) λAh=>Qc9 fu k8 Ab Ad Ac Ah (w64 ((w64 ((Aa.length:Int) - 1))+1)) else Qab (ix Aa (w64 ((Aa.length:Int) - 1))) λAk=>bif (decide ((w64 (Ae.fQ+Ac.fQ))>p1.fQ)) then Qab (Qc7 56 Aa [(⟨[],0,0,0,0⟩:Shelf)]) λAj=>Qc9 fu k8 Ab Ad Ac Aj (w64 ((w64 ((Aa.length:Int) - 1))+1)) else Qc9 fu k8 Ab Ad Ac Aa (w64 ((Aa.length:Int) - 1)) else some (Aa)
def Qbs (fu:Nat)  (p1:Pallet) (Aa:List Box) (Ab:(List Int)):Nat→List Shelf→Int→Option ((List Shelf))
  | 0=>λ_ _=>none
  | n+1=>Qnl fu p1 Aa Ab (Qbs fu p1 Aa Ab n)
def Qnm (fu:Nat)  (p1:Pallet) (Aa:List Box) (k1:List Int→Int→Option ((List Shelf))) (Ac:List Int) (Ab:Int):Option ((List Shelf)) :=
  bif (decide (Ab<(Aa.length:Int))) then Qab (ix Aa Ab) λAd=>Qab (Qc7 8 Ac (([Ad.fD]:List Int))) λAf=>k1 Af (w64 (Ab+1)) else Qab (Qg4 fu Ac) λAe=>Qbs fu p1 Aa Ae fu (([]:List Shelf)) 0
def Qgw (fu:Nat)  (p1:Pallet) (Aa:List Box):Nat→List Int→Int→Option ((List Shelf))
  | 0=>λ_ _=>none
  | n+1=>Qnm fu p1 Aa (Qgw fu p1 Aa n)
def Qqu (fu:Nat) (p1:Pallet) (Aa:List Box):Option ((List Shelf)) :=
  Qab (Qli fu p1 Aa) λAb=>bif (!Ab) then some (([]:List Shelf)) else Qgw fu p1 Aa fu (([]:List Int)) 0
def Qn2 (fu:Nat) (Aa:Shelf) (x5:Pallet):Option (Bool) :=
  Qab (Qat fu Aa.fD 1 x5.fD) λAc=>bif (!Ac) then some (true) else Qab (Qat fu Aa.fH 1 x5.fH) λAb=>bif (!Ab) then some (true) else Qab (Qat fu Aa.fQ 1 x5.fQ) λAd=>some (!Ad)
def Qcf (fu:Nat)  (Ab:List Shelf) (f5:Shelf→Option Bool) (k1:Int→Option (Int)) (Aa:Int):Option (Int) :=
  bif (decide (Aa<(Ab.length:Int))) then Qab (ix Ab Aa) λAd=>Qab (f5 Ad) λAc=>bif Ac then some (Aa) else k1 (w64 (Aa+1)) else some ((-1))
def Qar (fu:Nat)  (Aa:List Shelf) (f5:Shelf→Option Bool):Nat→Int→Option (Int)
  | 0=>λ_=>none
  | n+1=>Qcf fu Aa f5 (Qar fu Aa f5 n)
def Qc3 (fu:Nat) (Aa:List Shelf) (f5:Shelf→Option Bool):Option (Int) :=
  Qar fu Aa f5 fu 0
def Qbr (fu:Nat) (Aa:List Shelf) (f5:Shelf→Option Bool):Option (Bool) :=
  Qab (Qc3 fu Aa f5) λAb=>some (decide (Ab≥0))
def Qlx (fu:Nat) (p1:Pallet) (Ac:List Shelf):Option (Bool) :=
  Qab (Qel fu p1) λAa=>bif Aa then Qab (Qbr fu Ac (λAd=>Qn2 fu Ad p1)) λAb=>some (!Ab) else some (false)
def Qn3 (fu:Nat) (k7:List Layer→Int→Option ((List Layer))) (Aa:Int) (Ab:List Layer):Option ((List Layer)) :=
  k7 Ab (w64 (Aa+1))
def Qc0 (fu:Nat) (k7:List Layer→Int→Option ((List Layer))) (Ag:Int) (Ac:Shelf) (Af:List Layer) (Ad:Int):Option ((List Layer)) :=
  Qab (ix Af Ad) λAb=>Qab (Qc7 8 Ab.fP (([Ag]:List Int))) λAe=>Qab (some ((⟨(⟨Ae,Ab.fD,Ab.fH,Ab.fQ⟩:Layer).fP,w64 (((⟨Ae,Ab.fD,Ab.fH,Ab.fQ⟩:Layer).fD)+Ac.fD),(⟨Ae,Ab.fD,Ab.fH,Ab.fQ⟩:Layer).fH,(⟨Ae,Ab.fD,Ab.fH,Ab.fQ⟩:Layer).fQ⟩:Layer))) λAa=>Qab (some (Qi0 (Qi0 Af Ad (⟨Ae,Ab.fD,Ab.fH,Ab.fQ⟩:Layer)) Ad Aa)) λAh=>Qab (some ((⟨(⟨Aa.fP,Aa.fD,if Ac.fH>Aa.fH then Ac.fH else Aa.fH,Aa.fQ⟩:Layer).fP,(⟨Aa.fP,Aa.fD,if Ac.fH>Aa.fH then Ac.fH else Aa.fH,Aa.fQ⟩:Layer).fD,(⟨Aa.fP,Aa.fD,if Ac.fH>Aa.fH then Ac.fH else Aa.fH,Aa.fQ⟩:Layer).fH,w64 (((⟨Aa.fP,Aa.fD,if Ac.fH>Aa.fH then Ac.fH else Aa.fH,Aa.fQ⟩:Layer).fQ)+Ac.fQ)⟩:Layer))) λAj=>Qab (some (Qi0 (Qi0 Ah Ad (⟨Aa.fP,Aa.fD,if Ac.fH>Aa.fH then Ac.fH else Aa.fH,Aa.fQ⟩:Layer)) Ad Aj)) λAi=>Qn3 fu k7 Ag Ai
def Qk5 (fu:Nat)  (p1:Pallet) (Ad:List Shelf) (k7:List Layer→Int→Option ((List Layer))) (Aa:List Layer) (Ac:Int):Option ((List Layer)) :=
  bif (decide (Ac<(Ad.length:Int))) then Qab (ix Ad Ac) λAb=>bif (decide ((w64 ((Aa.length:Int) - 1))<0)) then Qab (Qc7 48 Aa [(⟨[],0,0,0⟩:Layer)]) λAf=>Qc0 fu k7 Ac Ab Af (w64 ((w64 ((Aa.length:Int) - 1))+1)) else Qab (ix Aa (w64 ((Aa.length:Int) - 1))) λAe=>bif (decide ((w64 (Ae.fD+Ab.fD))>p1.fD)) then Qab (Qc7 48 Aa [(⟨[],0,0,0⟩:Layer)]) λAh=>Qc0 fu k7 Ac Ab Ah (w64 ((w64 ((Aa.length:Int) - 1))+1)) else Qab (ix Aa (w64 ((Aa.length:Int) - 1))) λAi=>bif (decide ((w64 (Ae.fQ+Ab.fQ))>p1.fQ)) then Qab (Qc7 48 Aa [(⟨[],0,0,0⟩:Layer)]) λAg=>Qc0 fu k7 Ac Ab Ag (w64 ((w64 ((Aa.length:Int) - 1))+1)) else Qc0 fu k7 Ac Ab Aa (w64 ((Aa.length:Int) - 1)) else some (Aa)
def Qbt (fu:Nat)  (p1:Pallet) (Aa:List Shelf):Nat→List Layer→Int→Option ((List Layer))
  | 0=>λ_ _=>none
  | n+1=>Qk5 fu p1 Aa (Qbt fu p1 Aa n)
def Qn6 (fu:Nat) (p1:Pallet) (Aa:List Shelf):Option ((List Layer)) :=
  Qab (Qlx fu p1 Aa) λAb=>bif (!Ab) then some (([]:List Layer)) else Qbt fu p1 Aa fu (([]:List Layer)) 0
def Qpw (fu:Nat) (x1:Layer) (x5:Pallet):Option (Bool) :=
  Qab (Qat fu x1.fD 1 x5.fD) λAb=>bif (!Ab) then some (true) else Qab (Qat fu x1.fH 1 x5.fH) λAa=>bif (!Aa) then some (true) else Qab (Qat fu x1.fQ 1 x5.fQ) λAc=>some (!Ac)
def Qcd (fu:Nat)  (Ab:List Layer) (f5:Layer→Option Bool) (k1:Int→Option (Int)) (Aa:Int):Option (Int) :=
  bif (decide (Aa<(Ab.length:Int))) then Qab (ix Ab Aa) λAd=>Qab (f5 Ad) λAc=>bif Ac then some (Aa) else k1 (w64 (Aa+1)) else some ((-1))
def Qas (fu:Nat)  (Aa:List Layer) (f5:Layer→Option Bool):Nat→Int→Option (Int)
  | 0=>λ_=>none
  | n+1=>Qcd fu Aa f5 (Qas fu Aa f5 n)
def Qc2 (fu:Nat) (Aa:List Layer) (f5:Layer→Option Bool):Option (Int) :=
  Qas fu Aa f5 fu 0
def Qbq (fu:Nat) (Aa:List Layer) (f5:Layer→Option Bool):Option (Bool) :=
  Qab (Qc2 fu Aa f5) λAb=>some (decide (Ab≥0))
def Qnw (fu:Nat) (p1:Pallet) (Ac:List Layer):Option (Bool) :=
  Qab (Qel fu p1) λAa=>bif Aa then Qab (Qbq fu Ac (λAd=>Qpw fu Ad p1)) λAb=>some (!Ab) else some (false)
def Qpy (fu:Nat) (k7:List Load→Int→Option ((List Load))) (Ab:Int) (Aa:List Load):Option ((List Load)) :=
  k7 Aa (w64 (Ab+1))
def Qdd (fu:Nat) (k7:List Load→Int→Option ((List Load))) (Ag:Int) (Af:Layer) (Ae:List Load) (Ac:Int):Option ((List Load)) :=
  Qab (ix Ae Ac) λAa=>Qab (Qc7 8 Aa.fL (([Ag]:List Int))) λAd=>Qab (some ((⟨(⟨Ad,Aa.fH,Aa.fQ⟩:Load).fL,w64 (((⟨Ad,Aa.fH,Aa.fQ⟩:Load).fH)+Af.fH),(⟨Ad,Aa.fH,Aa.fQ⟩:Load).fQ⟩:Load))) λAb=>Qab (some (Qi0 (Qi0 Ae Ac (⟨Ad,Aa.fH,Aa.fQ⟩:Load)) Ac Ab)) λAh=>Qpy fu k7 Ag (Qi0 Ah Ac (⟨Ab.fL,Ab.fH,w64 (Ab.fQ+Af.fQ)⟩:Load))
def Qmd (fu:Nat)  (p1:Pallet) (Ad:List Layer) (k7:List Load→Int→Option ((List Load))) (Aa:List Load) (Ac:Int):Option ((List Load)) :=
  bif (decide (Ac<(Ad.length:Int))) then Qab (ix Ad Ac) λAb=>bif (decide ((w64 ((Aa.length:Int) - 1))<0)) then Qab (Qc7 40 Aa [(⟨[],0,0⟩:Load)]) λAh=>Qdd fu k7 Ac Ab Ah (w64 ((w64 ((Aa.length:Int) - 1))+1)) else Qab (ix Aa (w64 ((Aa.length:Int) - 1))) λAe=>bif (decide ((w64 (Ae.fH+Ab.fH))>p1.fH)) then Qab (Qc7 40 Aa [(⟨[],0,0⟩:Load)]) λAg=>Qdd fu k7 Ac Ab Ag (w64 ((w64 ((Aa.length:Int) - 1))+1)) else Qab (ix Aa (w64 ((Aa.length:Int) - 1))) λAi=>bif (decide ((w64 (Ae.fQ+Ab.fQ))>p1.fQ)) then Qab (Qc7 40 Aa [(⟨[],0,0⟩:Load)]) λAf=>Qdd fu k7 Ac Ab Af (w64 ((w64 ((Aa.length:Int) - 1))+1)) else Qdd fu k7 Ac Ab Aa (w64 ((Aa.length:Int) - 1)) else some (Aa)
def Qbz (fu:Nat)  (p1:Pallet) (Aa:List Layer):Nat→List Load→Int→Option ((List Load))
  | 0=>λ_ _=>none
  | n+1=>Qmd fu p1 Aa (Qbz fu p1 Aa n)
def Qqi (fu:Nat) (p1:Pallet) (Aa:List Layer):Option ((List Load)) :=
  Qab (Qnw fu p1 Aa) λAb=>bif (!Ab) then some (([]:List Load)) else Qbz fu p1 Aa fu (([]:List Load)) 0
def Qmg (fu:Nat) (Ao:List Spot→Int→Int→Option ((List Spot))) (Ai:List Box) (Ap:(List Shelf)) (Ah:Int) (Am:Int) (Ad:Int) (Ak:Int) (Aq:Int) (Af:Shelf) (Aj:List Spot→Int→Int→Option ((List Spot))) (Aa:List Spot) (Ae:Int) (Ac:Int):Option ((List Spot)) :=
  bif (decide (Ac<(Af.fM.length:Int))) then Qab (ix Af.fM Ac) λAb=>Qab (ix Aa Ab) λAr=>Qab (ix Ai Ab) λAl=>Aj (Qi0 Aa Ab (⟨Ah,Ae,Ad,Am⟩:Spot)) (w64 (Ae+Al.fW)) (w64 (Ac+1)) else Qab (ix Ap Aq) λAg=>Ao Aa (w64 (Ad+Ag.fD)) (w64 (Ak+1))
def Qgs (fu:Nat) (Af:List Spot→Int→Int→Option ((List Spot))) (Ab:List Box) (Ah:(List Shelf)) (Aa:Int) (Ae:Int) (Ad:Int) (Ac:Int) (Ai:Int) (Ag:Shelf):Nat→List Spot→Int→Int→Option ((List Spot))
  | 0=>λ_ _ _=>none
  | n+1=>Qmg fu Af Ab Ah Aa Ae Ad Ac Ai Ag (Qgs fu Af Ab Ah Aa Ae Ad Ac Ai Ag n)
def Qnc (fu:Nat) (Al:List Spot→Int→Int→Option ((List Spot))) (Ah:List Box) (Ae:(List Shelf)) (Am:(List Layer)) (Ag:Int) (Ab:Int) (Ai:Int) (Aj:Int) (Ac:Layer) (Ap:List Spot→Int→Int→Option ((List Spot))) (Ad:List Spot) (Ak:Int) (Aa:Int):Option ((List Spot)) :=
  bif (decide (Aa<(Ac.fP.length:Int))) then Qab (ix Ac.fP Aa) λAf=>Qab (ix Ae Af) λAq=>Qgs fu Ap Ah Ae Ag Ab Ak Aa Af Aq fu Ad 0 0 else Qab (ix Am Aj) λAo=>Al Ad (w64 (Ab+Ao.fH)) (w64 (Ai+1))
def Qdi (fu:Nat) (Af:List Spot→Int→Int→Option ((List Spot))) (Ab:List Box) (Ai:(List Shelf)) (Ae:(List Layer)) (Aa:Int) (Ag:Int) (Ac:Int) (Ad:Int) (Ah:Layer):Nat→List Spot→Int→Int→Option ((List Spot))
  | 0=>λ_ _ _=>none
  | n+1=>Qnc fu Af Ab Ai Ae Aa Ag Ac Ad Ah (Qdi fu Af Ab Ai Ae Aa Ag Ac Ad Ah n)
def Ql8 (fu:Nat) (Ah:List Spot→Int→Option ((List Spot))) (Ag:List Box) (Al:(List Shelf)) (Ae:(List Layer)) (Ab:Int) (Af:Load) (Ai:List Spot→Int→Int→Option ((List Spot))) (Ac:List Spot) (Aj:Int) (Aa:Int):Option ((List Spot)) :=
  bif (decide (Aa<(Af.fL.length:Int))) then Qab (ix Af.fL Aa) λAd=>Qab (ix Ae Ad) λAk=>Qdi fu Ai Ag Al Ae Ab Aj Aa Ad Ak fu Ac 0 0 else Ah Ac (w64 (Ab+1))
def Qb1 (fu:Nat) (Ac:List Spot→Int→Option ((List Spot))) (Ab:List Box) (Ae:(List Shelf)) (Ad:(List Layer)) (Aa:Int) (Af:Load):Nat→List Spot→Int→Int→Option ((List Spot))
  | 0=>λ_ _ _=>none
  | n+1=>Ql8 fu Ac Ab Ae Ad Aa Af (Qb1 fu Ac Ab Ae Ad Aa Af n)
def Qmb (fu:Nat)  (Ad:List Box) (Ag:(List Shelf)) (Af:(List Layer)) (Ab:(List Load)) (Ae:List Spot→Int→Option ((List Spot))) (Ac:List Spot) (Aa:Int):Option ((List Spot)) :=
  bif (decide (Aa<(Ab.length:Int))) then Qab (ix Ab Aa) λAh=>Qb1 fu Ae Ad Ag Af Aa Ah fu Ac 0 0 else some (Ac)
def Qbg (fu:Nat)  (Ac:List Box) (Ab:(List Shelf)) (Aa:(List Layer)) (Ad:(List Load)):Nat→List Spot→Int→Option ((List Spot))
  | 0=>λ_ _=>none
  | n+1=>Qmb fu Ac Ab Aa Ad (Qbg fu Ac Ab Aa Ad n)
def Qle (fu:Nat) (p1:Pallet) (Aa:List Box):Option ((List Spot)) :=
  Qab (Qli fu p1 Aa) λAf=>bif (!Af) then some (([]:List Spot)) else Qab (Qqu fu p1 Aa) λAc=>Qab (Qn6 fu p1 Ac) λAb=>Qab (mk 32 (⟨(0:Int),(0:Int),(0:Int),(0:Int)⟩:Spot) (Aa.length:Int)) λAe=>Qab (Qqi fu p1 Ab) λAd=>Qbg fu Aa Ac Ab Ad fu Ae 0
def Qj1 (fu:Nat) (k3:Int→Int→Option (Int)) (Aa:Int) (Ab:Int):Option (Int) :=
  k3 Ab (w64 (Aa+1))
def Qmh (fu:Nat)  (Ad:List Spot) (k3:Int→Int→Option (Int)) (Ab:Int) (Aa:Int):Option (Int) :=
  bif (decide (Aa<(Ad.length:Int))) then Qab (ix Ad Aa) λAc=>Qab (Qat fu Ac.fJ 0 999999) λAe=>bif Ae then Qj1 fu k3 Aa (if (w64 (Ac.fJ+1))>Ab then w64 (Ac.fJ+1) else Ab) else Qj1 fu k3 Aa Ab else some (Ab)
def Qev (fu:Nat)  (Aa:List Spot):Nat→Int→Int→Option (Int)
  | 0=>λ_ _=>none
  | n+1=>Qmh fu Aa (Qev fu Aa n)
def Qlg (fu:Nat) (Aa:List Spot):Option (Int) :=
  Qev fu Aa fu 0 0
def Qls (fu:Nat) (Ab:List Box→Int→Option (Plan×Bool)) (Ac:Int) (Aa:List Box):Option (Plan×Bool) :=
  Ab Aa (w64 (Ac+1))
def Qom (fu:Nat) (Af:List Spot→Int→Int→Option (Plan×Bool)) (Ad:Int) (Ah:Int) (Ae:(List Spot)) (Aj:Int) (Ai:List Spot→Int→Option (Plan×Bool)) (Ac:List Spot) (Ab:Int):Option (Plan×Bool) :=
  bif (decide (Ab<(Ae.length:Int))) then Qab (ix Ae Ab) λAa=>Qab (Qc7 32 Ac (([(⟨w64 (Aa.fJ+Ad),Aa.fX,Aa.fY,Aa.fZ⟩:Spot)]:List Spot))) λAg=>Ai Ag (w64 (Ab+1)) else Af Ac (w64 (Ad+Aj)) (w64 (Ah+1))
def Qf8 (fu:Nat) (Aa:List Spot→Int→Int→Option (Plan×Bool)) (Ac:Int) (Ab:Int) (Ad:(List Spot)) (Ae:Int):Nat→List Spot→Int→Option (Plan×Bool)
  | 0=>λ_ _=>none
  | n+1=>Qom fu Aa Ac Ab Ad Ae (Qf8 fu Aa Ac Ab Ad Ae n)
def Qnx (fu:Nat) (Ah:List Spot→Int→Int→Option (Plan×Bool)) (r1:Request) (Ac:(List Carton)) (Ai:List Spot) (Aj:Int) (Af:Int) (Ae:List Box→Int→Option (Plan×Bool)) (Ab:List Box) (Aa:Int):Option (Plan×Bool) :=
  bif (decide (Aa<(Ac.length:Int))) then Qab (ix Ac Aa) λAd=>bif (Ad.qJ==Af) then Qab (Qtb fu r1 Ad) λAl=>Qab (Qc7 32 Ab (([Al]:List Box))) λAk=>Qls fu Ae Aa Ak else Qls fu Ae Aa Ab else Qab (Qle fu r1.fJ Ab) λAg=>Qab (Qlg fu Ag) λAm=>Qf8 fu Ah Aj Af Ag Am fu Ai 0
def Qf2 (fu:Nat) (Aa:List Spot→Int→Int→Option (Plan×Bool)) (r1:Request) (Ab:(List Carton)) (Ad:List Spot) (Ae:Int) (Ac:Int):Nat→List Box→Int→Option (Plan×Bool)
  | 0=>λ_ _=>none
  | n+1=>Qnx fu Aa r1 Ab Ad Ae Ac (Qf2 fu Aa r1 Ab Ad Ae Ac n)
def Qpa (fu:Nat)  (r1:Request) (Aa:(List Carton)) (Af:(List (List Int))) (Ad:List Spot→Int→Int→Option (Plan×Bool)) (Ab:List Spot) (Ae:Int) (Ac:Int):Option (Plan×Bool) :=
  bif (decide (Ac<(Af.length:Int))) then Qf2 fu Ad r1 Aa Ab Ae Ac fu (([]:List Box)) 0 else some ((⟨Aa,Ab⟩:Plan),true)
def Qb0 (fu:Nat)  (r1:Request) (Ab:(List Carton)) (Aa:(List (List Int))):Nat→List Spot→Int→Int→Option (Plan×Bool)
  | 0=>λ_ _ _=>none
  | n+1=>Qpa fu r1 Ab Aa (Qb0 fu r1 Ab Aa n)
def Qrx (fu:Nat) (r1:Request):Option (Plan×Bool) :=
  Qab (Qfp fu r1) λAa=>bif (!Aa) then some ((⟨[],[]⟩:Plan),false) else Qab (Qlp fu r1) λAc=>Qab (Qhw fu r1) λAb=>Qb0 fu r1 Ac Ab fu (([]:List Spot)) 0 0
def Qhv (fu:Nat) (k3:Int→Option (Bool)) (Aa:Int)  : Option (Bool) :=
  k3 (w64 (Aa+1))
def Qix (fu:Nat)  (Ab:List Int) (k3:Int→Option (Bool)) (Aa:Int):Option (Bool) :=
  bif (decide (Aa<(Ab.length:Int))) then Qab (ix Ab Aa) λAc=>Qab (Qat fu Ac 0 999) λAd=>bif (!Ad) then some (false) else bif (decide (Aa>0)) then Qab (ix Ab (w64 (Aa - 1))) λAe=>bif (decide (Ae≥Ac)) then some (false) else Qhv fu k3 Aa else Qhv fu k3 Aa else some (decide ((Ab.length:Int)≤100))
def Qdm (fu:Nat)  (Aa:List Int):Nat→Int→Option (Bool)
  | 0=>λ_=>none
  | n+1=>Qix fu Aa (Qdm fu Aa n)
def Qkb (fu:Nat) (Aa:List Int):Option (Bool) :=
  Qdm fu Aa fu 0
def Qhu (fu:Nat) (n1:Int):Option (Bool) :=
  Qab (Qat fu n1 0 2000) λx2=>some (x2)
def Qra (fu:Nat) (k4:Int→Option (Bool)) (Aa:Int)  : Option (Bool) :=
  k4 (w64 (Aa+1))
def Qnv (fu:Nat)  (x1:Plan) (k4:Int→Option (Bool)) (Ab:Int):Option (Bool) :=
  bif (decide (Ab<(x1.fE.length:Int))) then Qab (ix x1.fE Ab) λAc=>Qab (ix x1.f9 Ab) λAa=>Qab (Qat fu Ac.qY 0 999) λAf=>bif (!Af) then some (false) else Qab (Qat fu Ac.qJ 0 3) λAh=>bif (!Ah) then some (false) else Qab (Qkb fu Ac.fO) λAi=>bif (!Ai) then some (false) else Qab (Qhu fu Aa.fJ) λAg=>bif (!Ag) then some (false) else Qab (Qhu fu Aa.fX) λAj=>bif (!Aj) then some (false) else Qab (Qhu fu Aa.fY) λAe=>bif (!Ae) then some (false) else Qab (Qhu fu Aa.fZ) λAd=>bif (!Ad) then some (false) else Qra fu k4 Ab else some (true)
def Qf0 (fu:Nat)  (x1:Plan):Nat→Int→Option (Bool)
  | 0=>λ_=>none
  | n+1=>Qnv fu x1 (Qf0 fu x1 n)
def Qrc (fu:Nat) (x1:Plan)  : Option (Bool) :=
  Qf0 fu x1 fu 0
def Qjz (fu:Nat) (x1:Plan):Option (Bool) :=
  bif ((x1.f9.length:Int) != (x1.fE.length:Int)) then some (false) else bif (decide ((x1.fE.length:Int)>100)) then some (false) else Qrc fu x1
def Qk3 (fu:Nat)  (Ab:List Int) (k1:ByteArray→Int→Option (ByteArray×Bool)) (Ad:ByteArray) (Aa:Int):Option (ByteArray×Bool) :=
  bif (decide (Aa<(Ab.length:Int))) then Qab (ix Ab Aa) λAc=>Qab (Qat fu Ac 0 999999) λAg=>bif (!Ag) then some ((⟨#[]⟩:ByteArray),false) else Qab (Qn1 fu Ac) λAf=>Qab (Qs5 (⟨#[32]⟩:ByteArray) Af) λAe=>Qab (Qs5 Ad Ae) λAh=>k1 Ah (w64 (Aa+1)) else Qab (Qs5 Ad (⟨#[10]⟩:ByteArray)) λAi=>some (Ai,true)
def Qeh (fu:Nat)  (Aa:List Int):Nat→ByteArray→Int→Option (ByteArray×Bool)
  | 0=>λ_ _=>none
  | n+1=>Qk3 fu Aa (Qeh fu Aa n)
def Qji (fu:Nat) (Ab:ByteArray) (Aa:List Int):Option (ByteArray×Bool) :=
  Qeh fu Aa fu Ab 0
def Qkt (fu:Nat)  (x1:Plan) (k1:ByteArray→Int→Option (ByteArray)) (Ad:ByteArray) (Ab:Int):Option (ByteArray) :=
  bif (decide (Ab<(x1.fE.length:Int))) then Qab (ix x1.fE Ab) λAc=>Qab (ix x1.f9 Ab) λAa=>Qab (Qc7 8 (([Ac.qY,Ac.qJ,Aa.fJ,Aa.fX,Aa.fY,Aa.fZ]:List Int)) Ac.fO) λAg=>Qab (Qji fu (⟨#[99,97,114,116,111,110]⟩:ByteArray) Ag) λAe=>Qab (Qs5 Ad Ae.1) λAf=>k1 Af (w64 (Ab+1)) else some (Ad)
def Qdr (fu:Nat)  (x1:Plan):Nat→ByteArray→Int→Option (ByteArray)
  | 0=>λ_ _=>none
  | n+1=>Qkt fu x1 (Qdr fu x1 n)
def Qop (fu:Nat) (x1:Plan):Option (ByteArray) :=
  Qab (Qjz fu x1) λAa=>bif (!Aa) then some (⟨#[]⟩:ByteArray) else Qdr fu x1 fu (⟨#[]⟩:ByteArray) 0
def Qs2 (fu:Nat) (Aa:ByteArray):Option (ByteArray×Int) :=
  Qab (Qqj fu Aa) λx2=>bif (x2 != 0) then some ((⟨#[]⟩:ByteArray),x2) else Qab (Qis fu Aa) λx7=>Qab (Qrx fu x7.1) λAb=>Qab (Qop fu Ab.1) λAc=>some (Ac,0)
def Ql3 (fu:Nat) (Aa:Int):Option (ByteArray) :=
  Qab (Qat fu Aa 0 (w64 ((((([(⟨#[111,107]⟩:ByteArray),(⟨#[116,101,120,116]⟩:ByteArray),(⟨#[98,111,117,110,100,115]⟩:ByteArray),(⟨#[110,97,109,101,115]⟩:ByteArray),(⟨#[116,97,98,108,101]⟩:ByteArray),(⟨#[117,110,105,116]⟩:ByteArray),(⟨#[112,97,108,108,101,116]⟩:ByteArray)]:List ByteArray)).length:Int)) - 1))) λx7=>bif (!x7) then some (⟨#[]⟩:ByteArray) else Qab (ix (([(⟨#[111,107]⟩:ByteArray),(⟨#[116,101,120,116]⟩:ByteArray),(⟨#[98,111,117,110,100,115]⟩:ByteArray),(⟨#[110,97,109,101,115]⟩:ByteArray),(⟨#[116,97,98,108,101]⟩:ByteArray),(⟨#[117,110,105,116]⟩:ByteArray),(⟨#[112,97,108,108,101,116]⟩:ByteArray)]:List ByteArray)) Aa) λAb=>some (Ab)
def Qtp (fu:Nat) (Ab:Int):Option (ByteArray) :=
  Qab (Ql3 fu Ab) λx2=>Qab (Qs5 (⟨#[33,32]⟩:ByteArray) x2) λAa=>some (Aa)
def Qoo (fu:Nat) (Aa:ByteArray):Option (ByteArray) :=
  Qab (Qs2 fu Aa) λx2=>bif (x2.2 != 0) then Qab (Qtp fu x2.2) λx7=>Qab (Qs5 x7 (⟨#[10]⟩:ByteArray)) λAb=>some (Ab) else some (x2.1)
def Qic (fu:Nat) (k3:List ByteArray→Int→Int→Option ((List ByteArray))) (Aa:Int) (Ab:List ByteArray) (Ac:Int):Option ((List ByteArray)) :=
  k3 Ab Ac (w64 (Aa+1))
def Qj8 (fu:Nat)  (Ab:ByteArray) (Ah:Int) (k3:List ByteArray→Int→Int→Option ((List ByteArray))) (Ac:List ByteArray) (Ad:Int) (Aa:Int):Option ((List ByteArray)) :=
  bif (decide (Aa≤((Ab.size:Int)))) then bif (Aa==((Ab.size:Int))) then Qab (ssl Ab Ad Aa) λAe=>Qab (Qc7 16 Ac (([Ae]:List ByteArray))) λAg=>Qic fu k3 Aa Ag (w64 (Aa+1)) else Qab (sx Ab Aa) λAf=>bif (Af==Ah) then Qab (ssl Ab Ad Aa) λAj=>Qab (Qc7 16 Ac (([Aj]:List ByteArray))) λAi=>Qic fu k3 Aa Ai (w64 (Aa+1)) else Qic fu k3 Aa Ac Ad else some (Ac)
def Qfo (fu:Nat)  (Aa:ByteArray) (Ab:Int):Nat→List ByteArray→Int→Int→Option ((List ByteArray))
  | 0=>λ_ _ _=>none
  | n+1=>Qj8 fu Aa Ab (Qfo fu Aa Ab n)
def Qq1 (fu:Nat) (Aa:ByteArray) (Ab:Int):Option ((List ByteArray)) :=
  Qfo fu Aa Ab fu (([]:List ByteArray)) 0 0
def Qrq (fu:Nat) (k8:Int→Int→Option (Int×Bool)) (Aa:Int) (Ab:Int):Option (Int×Bool) :=
  k8 Ab (w64 (Aa+1))
def Qrd (fu:Nat) (k8:Int→Int→Option (Int×Bool)) (Ac:ByteArray) (Ad:Int) (Aa:Int)  : Option (Int×Bool) :=
  Qab (sx Ac Aa) λAb=>Qrq fu k8 Aa (w64 ((w64 ((w64 (10*Ad))+(w64 Ab))) - 48))
def Qph (fu:Nat)  (Aa:ByteArray) (k8:Int→Int→Option (Int×Bool)) (Ac:Int) (Ab:Int):Option (Int×Bool) :=
  bif (decide (Ab<((Aa.size:Int)))) then Qab (sx Aa Ab) λAd=>bif (decide (Ad<48)) then some (0,false) else Qab (sx Aa Ab) λAe=>bif (decide (Ae>57)) then some (0,false) else Qrd fu k8 Aa Ac Ab else Qab (Qil fu Ac) λAf=>bif (!(Af.toList==Aa.toList)) then some (0,false) else some (Ac,true)
def Qen (fu:Nat)  (Aa:ByteArray):Nat→Int→Int→Option (Int×Bool)
  | 0=>λ_ _=>none
  | n+1=>Qph fu Aa (Qen fu Aa n)
def Qrm (fu:Nat) (Aa:ByteArray)  : Option (Int×Bool) :=
  Qen fu Aa fu 0 0
def Qod (fu:Nat) (Aa:ByteArray):Option (Int×Bool) :=
  bif (decide (((Aa.size:Int))<1)) then some (0,false) else bif (decide (((Aa.size:Int))>6)) then some (0,false) else Qrm fu Aa
def Qoh (fu:Nat)  (x4:(List ByteArray)) (k2:List Int→Int→Option ((List Int)×Bool)) (Ab:List Int) (Aa:Int):Option ((List Int)×Bool) :=
  bif (decide (Aa<(x4.length:Int))) then Qab (ix x4 Aa) λAd=>Qab (Qod fu Ad) λAc=>bif (!Ac.2) then some (([]:List Int),false) else Qab (Qc7 8 Ab (([Ac.1]:List Int))) λAe=>k2 Ae (w64 (Aa+1)) else some (Ab,true)
def Qhk (fu:Nat)  (x4:(List ByteArray)):Nat→List Int→Int→Option ((List Int)×Bool)
  | 0=>λ_ _=>none
  | n+1=>Qoh fu x4 (Qhk fu x4 n)
def Qrn (fu:Nat) (x4:(List ByteArray))  : Option ((List Int)×Bool) :=
  Qhk fu x4 fu (([]:List Int)) 1
def Qog (fu:Nat) (Ad:ByteArray) (Ab:ByteArray) (Aa:Int):Option ((List Int)×Bool) :=
  Qab (Qq1 fu Ad 32) λx4=>Qab (ix x4 0) λAc=>bif (!(Ac.toList==Ab.toList)) then some (([]:List Int),false) else bif ((x4.length:Int) != (w64 (Aa+1))) then some (([]:List Int),false) else Qrn fu x4
def Qbc (fu:Nat) (Ab:List ByteArray) (Aa:Int) (Ae:ByteArray) (Af:Int):Option ((List Int)×Bool) :=
  bif (decide (Aa≥(w64 ((Ab.length:Int) - 1)))) then some (([]:List Int),false) else Qab (ix Ab Aa) λAd=>Qab (Qog fu Ad Ae Af) λAc=>some (Ac.1,Ac.2)
def Qjq (fu:Nat)  (x5:(List ByteArray)) (Ak:Int) (Am:Int) (Au:Int) (Al:Int) (Ap:Int) (Ag:Int) (Ah:List Pair) (Ao:List Typ) (Aw:Int) (k5:List Item→Int→List Int→Bool→Option (Request×Int)) (Ac:List Item) (Ab:Int) (Aa:List Int) (Ai:Bool):Option (Request×Int) :=
  bif Ai then Qab (ix Aa 0) λAs=>Qab (ix Aa 1) λAq=>Qab (ix Aa 2) λAv=>Qab (ix Aa 3) λAf=>Qab (ix Aa 4) λAt=>Qab (ix Aa 5) λAr=>Qab (ix Aa 6) λAj=>Qab (Qc7 56 Ac (([(⟨As,Aq,Av,Af,At,Ar,Aj⟩:Item)]:List Item))) λAx=>Qab (Qbc fu x5 (w64 (Ab+1)) (⟨#[105,116,101,109]⟩:ByteArray) 7) λAd=>k5 Ax (w64 (Ab+1)) Ad.1 Ad.2 else bif (decide (Ab<(w64 ((x5.length:Int) - 1)))) then some ((⟨0,(⟨0,0,0,0⟩:Pallet),0,[],[],0,[]⟩:Request),Ab) else Qab (ix x5 (w64 ((x5.length:Int) - 1))) λAe=>bif (!(Ae.toList==(⟨#[]⟩:ByteArray).toList)) then some ((⟨0,(⟨0,0,0,0⟩:Pallet),0,[],[],0,[]⟩:Request),Ab) else some ((⟨Ak,(⟨Am,Au,Al,Ap⟩:Pallet),Ag,Ah,Ao,Aw,Ac⟩:Request),(-1))
def Qe7 (fu:Nat)  (x5:(List ByteArray)) (Ah:Int) (Ab:Int) (Ac:Int) (Ai:Int) (Af:Int) (Aa:Int) (Ad:List Pair) (Ae:List Typ) (Ag:Int):Nat→List Item→Int→List Int→Bool→Option (Request×Int)
  | 0=>λ_ _ _ _=>none
  | n+1=>Qjq fu x5 Ah Ab Ac Ai Af Aa Ad Ae Ag (Qe7 fu x5 Ah Ab Ac Ai Af Aa Ad Ae Ag n)
def Qje (fu:Nat)  (x5:(List ByteArray)) (Ao:Int) (Ar:Int) (Au:Int) (Aq:Int) (At:Int) (Ak:Int) (Al:List Pair) (k4:List Typ→Int→List Int→Bool→Option (Request×Int)) (Ac:List Typ) (Ab:Int) (Aa:List Int) (Aw:Bool):Option (Request×Int) :=
  bif Aw then Qab (ix Aa 0) λAh=>Qab (ix Aa 1) λAm=>Qab (ix Aa 2) λAg=>Qab (ix Aa 3) λAx=>Qab (ix Aa 4) λAp=>Qab (ix Aa 5) λAs=>Qab (ix Aa 6) λAi=>Qab (Qc7 56 Ac (([(⟨Ah,Am,Ag,Ax,Ap,As,Ai⟩:Typ)]:List Typ))) λAj=>Qab (Qbc fu x5 (w64 (Ab+1)) (⟨#[116,121,112,101]⟩:ByteArray) 7) λAe=>k4 Aj (w64 (Ab+1)) Ae.1 Ae.2 else Qab (Qbc fu x5 Ab (⟨#[109,97,115,116,101,114]⟩:ByteArray) 1) λAd=>bif (!Ad.2) then some ((⟨0,(⟨0,0,0,0⟩:Pallet),0,[],[],0,[]⟩:Request),Ab) else Qab (ix Ad.1 0) λAv=>Qab (Qbc fu x5 (w64 (Ab+1)) (⟨#[105,116,101,109]⟩:ByteArray) 7) λAf=>Qe7 fu x5 Ao Ar Au Aq At Ak Al Ac Av fu (([]:List Item)) (w64 (Ab+1)) Af.1 Af.2
def Qe2 (fu:Nat)  (x5:(List ByteArray)) (Af:Int) (Ab:Int) (Ac:Int) (Ag:Int) (Ae:Int) (Aa:Int) (Ad:List Pair):Nat→List Typ→Int→List Int→Bool→Option (Request×Int)
  | 0=>λ_ _ _ _=>none
  | n+1=>Qje fu x5 Af Ab Ac Ag Ae Aa Ad (Qe2 fu x5 Af Ab Ac Ag Ae Aa Ad n)
def Qq4 (fu:Nat)  (x5:(List ByteArray)) (Al:Int) (Ag:Int) (Ah:Int) (Ao:Int) (Aj:Int) (Af:Int) (k3:List Pair→Int→List Int→Bool→Option (Request×Int)) (Ab:List Pair) (Aa:Int) (Ad:List Int) (Ap:Bool):Option (Request×Int) :=
  bif Ap then Qab (ix Ad 0) λAi=>Qab (ix Ad 1) λAk=>Qab (Qc7 16 Ab (([(⟨Ai,Ak⟩:Pair)]:List Pair))) λAm=>Qab (Qbc fu x5 (w64 (Aa+1)) (⟨#[119,105,116,104]⟩:ByteArray) 2) λAc=>k3 Am (w64 (Aa+1)) Ac.1 Ac.2 else Qab (Qbc fu x5 Aa (⟨#[116,121,112,101]⟩:ByteArray) 7) λAe=>Qe2 fu x5 Al Ag Ah Ao Aj Af Ab fu (([]:List Typ)) Aa Ae.1 Ae.2
def Qha (fu:Nat)  (x5:(List ByteArray)) (Ae:Int) (Ab:Int) (Ac:Int) (Af:Int) (Ad:Int) (Aa:Int):Nat→List Pair→Int→List Int→Bool→Option (Request×Int)
  | 0=>λ_ _ _ _=>none
  | n+1=>Qq4 fu x5 Ae Ab Ac Af Ad Aa (Qha fu x5 Ae Ab Ac Af Ad Aa n)
def Qd3 (fu:Nat) (x5:(List ByteArray)) (Ah:Int):Option (Request×Int) :=
  Qab (Qbc fu x5 1 (⟨#[112,97,108,108,101,116]⟩:ByteArray) 4) λAa=>bif (!Aa.2) then some ((⟨0,(⟨0,0,0,0⟩:Pallet),0,[],[],0,[]⟩:Request),1) else Qab (ix Aa.1 0) λAe=>Qab (ix Aa.1 1) λAf=>Qab (ix Aa.1 2) λAi=>Qab (ix Aa.1 3) λAg=>Qab (Qbc fu x5 2 (⟨#[99,108,97,115,115,101,115]⟩:ByteArray) 1) λAb=>bif (!Ab.2) then some ((⟨0,(⟨0,0,0,0⟩:Pallet),0,[],[],0,[]⟩:Request),2) else Qab (ix Ab.1 0) λAd=>Qab (Qbc fu x5 3 (⟨#[119,105,116,104]⟩:ByteArray) 2) λAc=>Qha fu x5 Ah Ae Af Ai Ag Ad fu (([]:List Pair)) 3 Ac.1 Ac.2
def Qg1 (fu:Nat) (x5:(List ByteArray))  : Option (Request×Int) :=
  Qab (ix x5 0) λAa=>bif (Aa.toList==(⟨#[119,97,121,32,110,101,120,116]⟩:ByteArray).toList) then Qd3 fu x5 1 else Qd3 fu x5 0
def Qir (fu:Nat) (Ab:ByteArray):Option (Request×Int) :=
  Qab (Qq1 fu Ab 10) λx5=>bif (decide ((w64 ((x5.length:Int) - 1))>60)) then some ((⟨0,(⟨0,0,0,0⟩:Pallet),0,[],[],0,[]⟩:Request),60) else bif (decide ((w64 ((x5.length:Int) - 1))<1)) then some ((⟨0,(⟨0,0,0,0⟩:Pallet),0,[],[],0,[]⟩:Request),0) else Qab (ix x5 0) λAa=>bif (!(Aa.toList==(⟨#[119,97,121,32,102,105,114,115,116]⟩:ByteArray).toList)) then Qab (ix x5 0) λAc=>bif (!(Aa.toList==(⟨#[119,97,121,32,110,101,120,116]⟩:ByteArray).toList)) then some ((⟨0,(⟨0,0,0,0⟩:Pallet),0,[],[],0,[]⟩:Request),0) else Qg1 fu x5 else Qg1 fu x5
def Qqc (fu:Nat) (Aa:ByteArray):Option (Int) :=
  Qab (Qir fu Aa) λx2=>bif (decide (x2.2≥0)) then some (1) else Qab (Qd6 fu x2.1) λAb=>some (Ab)
def Qka (fu:Nat) (Ab:List Int→Int→Option ((List Int))) (Aa:Int) (Ac:List Int):Option ((List Int)) :=
  Ab Ac (w64 (Aa+1))
def Qki (fu:Nat) (Ab:Bool→Int→Option ((List Int))) (Aa:Int) (Ac:Bool):Option ((List Int)) :=
  Ab Ac (w64 (Aa+1))
def Qm4 (fu:Nat) (Af:List Int→Int→Option ((List Int))) (r1:Request) (Ad:List Int) (Ab:Int) (Ae:Bool→Int→Option ((List Int))) (Ac:Bool) (Aa:Int):Option ((List Int)) :=
  bif (decide (Aa<(r1.fV.length:Int))) then bif Ac then Qki fu Ae Aa true else Qab (ix r1.fV Aa) λAh=>Qki fu Ae Aa (Ah.fK==Ab) else bif Ac then Qab (Qc7 8 Ad (([Ab]:List Int))) λAg=>Qka fu Af Ab Ag else Qka fu Af Ab Ad
def Qec (fu:Nat) (Ac:List Int→Int→Option ((List Int))) (r1:Request) (Ab:List Int) (Aa:Int):Nat→Bool→Int→Option ((List Int))
  | 0=>λ_ _=>none
  | n+1=>Qm4 fu Ac r1 Ab Aa (Qec fu Ac r1 Ab Aa n)
def Qms (fu:Nat)  (r1:Request) (Ac:List Int→Int→Option ((List Int))) (Ab:List Int) (Aa:Int):Option ((List Int)) :=
  bif (decide (Aa<4)) then Qec fu Ac r1 Ab Aa fu false 0 else some (Ab)
def Qdf (fu:Nat)  (r1:Request):Nat→List Int→Int→Option ((List Int))
  | 0=>λ_ _=>none
  | n+1=>Qms fu r1 (Qdf fu r1 n)
def Qq0 (fu:Nat) (r1:Request):Option ((List Int)) :=
  Qab (Qd6 fu r1) λAa=>bif (Aa != 0) then some (([]:List Int)) else Qdf fu r1 fu (([]:List Int)) 0
def Qpo (fu:Nat)  (Ab:List Int) (x5:Int) (k1:Int→Option (Bool)) (Aa:Int):Option (Bool) :=
  bif (decide (Aa<(Ab.length:Int))) then Qab (ix Ab Aa) λAc=>bif (Ac==x5) then some (true) else k1 (w64 (Aa+1)) else some (false)
def Qia (fu:Nat)  (Aa:List Int) (x5:Int):Nat→Int→Option (Bool)
  | 0=>λ_=>none
  | n+1=>Qpo fu Aa x5 (Qia fu Aa x5 n)
def Qq3 (fu:Nat) (Aa:List Int) (x5:Int):Option (Bool) :=
  Qia fu Aa x5 fu 0
def Qp2 (fu:Nat) (k3:Int→Option (Bool)) (Aa:Int)  : Option (Bool) :=
  k3 (w64 (Aa+1))
def Qnh (fu:Nat)  (Ae:List Pair) (Ab:List Int) (Ac:Int) (k3:Int→Option (Bool)) (Aa:Int):Option (Bool) :=
  bif (decide (Aa<(Ab.length:Int))) then Qab (ix Ab Aa) λAd=>Qab (Qfj fu Ae Ad Ac) λAf=>bif (!Af) then some (false) else Qab (ix Ab Aa) λAh=>Qab (Qfj fu Ae Ac Ad) λAg=>bif (!Ag) then some (false) else Qp2 fu k3 Aa else some (true)
def Qeu (fu:Nat)  (Ab:List Pair) (Aa:List Int) (Ac:Int):Nat→Int→Option (Bool)
  | 0=>λ_=>none
  | n+1=>Qnh fu Ab Aa Ac (Qeu fu Ab Aa Ac n)
def Qqq (fu:Nat) (Ab:List Pair) (Aa:List Int) (Ac:Int):Option (Bool) :=
  Qeu fu Ab Aa Ac fu 0
def Qhi (fu:Nat) (Ab:List (List Int)→Int→Option ((List (List Int)))) (Ac:Int) (Aa:List (List Int)):Option ((List (List Int))) :=
  Ab Aa (w64 (Ac+1))
def Qly (fu:Nat) (Ac:Int→Int→Option ((List (List Int)))) (Ab:Int) (Aa:Int):Option ((List (List Int))) :=
  Ac Aa (w64 (Ab - 1))
def Qn0 (fu:Nat) (Af:List (List Int)→Int→Option ((List (List Int)))) (Aj:List Pair) (Ac:List (List Int)) (Ab:Int) (Ae:Int→Int→Option ((List (List Int)))) (Aa:Int) (Ad:Int):Option ((List (List Int))) :=
  bif (decide (Ad≥0)) then Qab (ix Ac Ad) λAg=>Qab (Qqq fu Aj Ag Ab) λAh=>bif Ah then Qly fu Ae Ad Ad else Qly fu Ae Ad Aa else bif (decide (Aa<0)) then Qab (Qc7 24 Ac [([Ab]:List Int)]) λAk=>Qhi fu Af Ab Ak else Qab (ix Ac Aa) λAl=>Qab (Qc7 8 Al (([Ab]:List Int))) λAi=>Qab (ix Ac Aa) λAm=>Qhi fu Af Ab (Qi0 Ac Aa Ai)
def Qep (fu:Nat) (Ac:List (List Int)→Int→Option ((List (List Int)))) (Ab:List Pair) (Ad:List (List Int)) (Aa:Int):Nat→Int→Int→Option ((List (List Int)))
  | 0=>λ_ _=>none
  | n+1=>Qn0 fu Ac Ab Ad Aa (Qep fu Ac Ab Ad Aa n)
def Qol (fu:Nat)  (Af:List Pair) (Ad:List Int) (Ac:List (List Int)→Int→Option ((List (List Int)))) (Ab:List (List Int)) (Aa:Int):Option ((List (List Int))) :=
  bif (decide (Aa<4)) then Qab (Qq3 fu Ad Aa) λAe=>bif (!Ae) then Qhi fu Ac Aa Ab else Qep fu Ac Af Ab Aa fu ((-1)) (w64 ((Ab.length:Int) - 1)) else some (Ab)
def Qdz (fu:Nat)  (Ab:List Pair) (Aa:List Int):Nat→List (List Int)→Int→Option ((List (List Int)))
  | 0=>λ_ _=>none
  | n+1=>Qol fu Ab Aa (Qdz fu Ab Aa n)
def Qsg (fu:Nat) (Ab:List Pair) (Aa:List Int):Option ((List (List Int))) :=
  Qdz fu Ab Aa fu (([]:List (List Int))) 0
def Qh0 (fu:Nat) (r1:Request):Option ((List (List Int))) :=
  Qab (Qq0 fu r1) λAa=>Qab (Qsg fu r1.fR Aa) λAb=>some (Ab)
def Qmx (fu:Nat) (k3:List Int→Int→Option ((List Int))) (r1:Request) (Aa:Int) (k4:List Int→Int→Option ((List Int))) (Ab:List Int) (Ac:Int):Option ((List Int)) :=
  Qab (ix r1.fV Aa) λAd=>bif (decide (Ac<Ad.fF)) then Qab (Qc7 8 Ab (([Aa]:List Int))) λAe=>k4 Ae (w64 (Ac+1)) else k3 Ab (w64 (Aa+1))
def Qg0 (fu:Nat) (k3:List Int→Int→Option ((List Int))) (r1:Request) (Aa:Int):Nat→List Int→Int→Option ((List Int))
  | 0=>λ_ _=>none
  | n+1=>Qmx fu k3 r1 Aa (Qg0 fu k3 r1 Aa n)
def Ql7 (fu:Nat)  (r1:Request) (k3:List Int→Int→Option ((List Int))) (Aa:List Int) (Ab:Int):Option ((List Int)) :=
  bif (decide (Ab<(r1.fV.length:Int))) then Qg0 fu k3 r1 Ab fu Aa 0 else some (Aa)
def Qd4 (fu:Nat)  (r1:Request):Nat→List Int→Int→Option ((List Int))
  | 0=>λ_ _=>none
  | n+1=>Ql7 fu r1 (Qd4 fu r1 n)
def Qcs (fu:Nat) (r1:Request):Option ((List Int)) :=
  Qd4 fu r1 fu (([]:List Int)) 0
def Qkg (fu:Nat) (k3:List Int→Int→Option ((List Int))) (Aa:Int) (Ab:List Int):Option ((List Int)) :=
  k3 Ab (w64 (Aa+1))
def Qni (fu:Nat)  (r1:Request) (Ah:Int) (Aj:(List (List Int))) (Ac:(List Int)) (k3:List Int→Int→Option ((List Int))) (Ab:List Int) (Aa:Int):Option ((List Int)) :=
  bif (decide (Aa<(Ac.length:Int))) then Qab (ix Aj Ah) λAf=>Qab (ix Ac Aa) λAi=>Qab (ix r1.fV Ai) λAg=>Qab (Qq3 fu Af Ag.fK) λAe=>bif Ae then Qab (Qc7 8 Ab (([Aa]:List Int))) λAd=>Qkg fu k3 Aa Ad else Qkg fu k3 Aa Ab else some (Ab)
def Qff (fu:Nat)  (r1:Request) (Aa:Int) (Ac:(List (List Int))) (Ab:(List Int)):Nat→List Int→Int→Option ((List Int))
  | 0=>λ_ _=>none
  | n+1=>Qni fu r1 Aa Ac Ab (Qff fu r1 Aa Ac Ab n)
def Qql (fu:Nat) (r1:Request) (Aa:Int):Option ((List Int)) :=
  Qab (Qh0 fu r1) λAb=>Qab (Qan fu Aa 0 (w64 ((Ab.length:Int) - 1))) λAd=>bif (!Ad) then some (([]:List Int)) else Qab (Qcs fu r1) λAc=>Qff fu r1 Aa Ab Ac fu (([]:List Int)) 0
def Qkk (fu:Nat) (k3:List Int→Int→Option ((List Int))) (Ab:Int) (Aa:List Int):Option ((List Int)) :=
  k3 Aa (w64 (Ab+1))
def Qmk (fu:Nat)  (Ae:List Int) (Ac:List Int) (k3:List Int→Int→Option ((List Int))) (Ab:List Int) (Aa:Int):Option ((List Int)) :=
  bif (decide (Aa<(Ac.length:Int))) then Qab (ix Ac Aa) λAd=>Qab (Qan fu Ad 0 (w64 ((Ae.length:Int) - 1))) λAf=>bif Af then Qab (ix Ac Aa) λAh=>Qab (Qc7 8 Ab (([Ad]:List Int))) λAg=>Qkk fu k3 Aa Ag else Qkk fu k3 Aa Ab else some (Ab)
def Qew (fu:Nat)  (Aa:List Int) (Ab:List Int):Nat→List Int→Int→Option ((List Int))
  | 0=>λ_ _=>none
  | n+1=>Qmk fu Aa Ab (Qew fu Aa Ab n)
def Qlj (fu:Nat) (Aa:List Int) (Ab:List Int):Option ((List Int)) :=
  Qew fu Aa Ab fu (([]:List Int)) 0
def Qkm (fu:Nat) (r1:Request) (Aa:List Int) (u9:Int):Option (Item×Bool) :=
  Qab (Qan fu u9 0 (w64 ((Aa.length:Int) - 1))) λAc=>bif (!Ac) then some ((⟨0,0,0,0,0,0,0⟩:Item),false) else Qab (ix Aa u9) λAd=>Qab (ix r1.fV Ad) λAb=>some (Ab,true)
def Qq7 (fu:Nat) (Aa:Int) (h2:Int) (d3:Int)  : Option (Int) :=
  some (w64 ((w64 (Aa*h2))*d3))
def Qj9 (fu:Nat) (Aa:Int) (h2:Int) (d3:Int):Option (Int) :=
  Qab (Qan fu Aa 0 2000) λAc=>bif (!Ac) then some (0) else Qab (Qan fu h2 0 2000) λAd=>bif (!Ad) then some (0) else Qab (Qan fu d3 0 2000) λAb=>bif (!Ab) then some (0) else Qq7 fu Aa h2 d3
def Qtn (fu:Nat) (k7:L7→Int→Option (L7)) (Aa:Int) (Ab:L7):Option (L7) :=
  k7 Ab (w64 (Aa+1))
def Qtw (fu:Nat) (k7:L7→Int→Option (L7)) (Ab:L7) (Ad:Int) (Aa:Item):Option (L7) :=
  Qab (Qj9 fu Aa.fW Aa.fH Aa.fD) λAc=>Qtn fu k7 Ad (⟨w64 (Ab.fvol+Ac),w64 (Ab.fgram+Aa.fQ)⟩:L7)
def Qrr (fu:Nat)  (r1:Request) (Ad:List Int) (Ac:List Int) (k7:L7→Int→Option (L7)) (Ab:L7) (Aa:Int):Option (L7) :=
  bif (decide (Aa<(Ac.length:Int))) then Qab (ix Ac Aa) λAf=>Qab (Qkm fu r1 Ad Af) λAe=>Qtw fu k7 Ab Aa Ae.1 else some (Ab)
def Qgn (fu:Nat)  (r1:Request) (Aa:List Int) (Ab:List Int):Nat→L7→Int→Option (L7)
  | 0=>λ_ _=>none
  | n+1=>Qrr fu r1 Aa Ab (Qgn fu r1 Aa Ab n)
def Qp7 (fu:Nat) (r1:Request) (Aa:List Int) (Ab:List Int):Option (L7) :=
  Qgn fu r1 Aa Ab fu (⟨0,0⟩:L7) 0
def Qrt (fu:Nat) (m9:Typ) (Aa:L7):Option (Bool) :=
  Qab (Qj9 fu m9.fW m9.fH m9.fD) λAb=>bif (decide (Aa.fvol≤Ab)) then some (decide (Aa.fgram≤m9.fQ)) else some (false)
def Qon (fu:Nat) (r1:Request) (Ad:List Int) (m9:Typ) (Ab:List Int) (Aa:Int):Option (Bool) :=
  Qab (Qc7 8 (([]:List Int)) Ab) λAf=>Qab (Qc7 8 Af (([Aa]:List Int))) λAc=>Qab (Qp7 fu r1 Ad Ac) λAe=>Qrt fu m9 Ae
def Qip (fu:Nat) (k3:List (List Int)→Int→Option ((List (List Int)))) (Ab:Int) (Aa:List (List Int)):Option ((List (List Int))) :=
  k3 Aa (w64 (Ab+1))
def Qoz (fu:Nat)  (r1:Request) (Ac:List Int) (Ai:Typ×Bool) (Ah:(List Int)) (k3:List (List Int)→Int→Option ((List (List Int)))) (Aa:List (List Int)) (Ab:Int):Option ((List (List Int))) :=
  bif (decide (Ab<(Ac.length:Int))) then bif (decide ((Aa.length:Int)>0)) then Qab (ix Aa (w64 ((Aa.length:Int) - 1))) λAe=>Qab (ix Ac Ab) λAd=>Qab (Qon fu r1 Ah Ai.1 Ae Ad) λAg=>bif Ag then Qab (ix Aa (w64 ((Aa.length:Int) - 1))) λAp=>Qab (ix Ac Ab) λAo=>Qab (Qc7 8 Ae (([Ad]:List Int))) λAk=>Qab (ix Aa (w64 ((Aa.length:Int) - 1))) λAq=>Qip fu k3 Ab (Qi0 Aa (w64 ((Aa.length:Int) - 1)) Ak) else Qab (ix Ac Ab) λAm=>Qab (Qc7 24 Aa [([Ad]:List Int)]) λAj=>Qip fu k3 Ab Aj else Qab (ix Ac Ab) λAl=>Qab (Qc7 24 Aa [([Al]:List Int)]) λAf=>Qip fu k3 Ab Af else some (Aa)
def Qgb (fu:Nat)  (r1:Request) (Ac:List Int) (Ab:Typ×Bool) (Aa:(List Int)):Nat→List (List Int)→Int→Option ((List (List Int)))
  | 0=>λ_ _=>none
  | n+1=>Qoz fu r1 Ac Ab Aa (Qgb fu r1 Ac Ab Aa n)
def Quc (fu:Nat) (r1:Request) (Ac:List Int):Option ((List (List Int))) :=
  Qab (Qfm fu r1) λAb=>Qab (Qcs fu r1) λAa=>Qgb fu r1 Ac Ab Aa fu (([]:List (List Int))) 0
def Qqr (fu:Nat) (r1:Request) (Ae:List Int):Option ((List (List Int))) :=
  Qab (Qd6 fu r1) λAc=>bif (Ac != 0) then some (([]:List (List Int))) else Qab (Qcs fu r1) λAd=>Qab (Qlj fu Ad Ae) λAa=>Qab (Quc fu r1 Aa) λAb=>some (Ab)
def Qhb (fu:Nat) (Aa:List Int):Option ((List Int)) :=
  Qab (Qi7 fu (Aa.length:Int)) λx5=>Qab (Qlf fu Aa x5 true) λAb=>some (Ab)
def Qjv (fu:Nat) (Ac:List (List Int)→Int→Option ((List (List Int)))) (Aa:Int) (Ab:List (List Int)):Option ((List (List Int))) :=
  Ac Ab (w64 (Aa+1))
def Qkf (fu:Nat) (Ab:Int→Int→Option ((List (List Int)))) (Aa:Int) (Ac:Int):Option ((List (List Int))) :=
  Ab Ac (w64 (Aa - 1))
def Qmv (fu:Nat) (Ae:List (List Int)→Int→Option ((List (List Int)))) (r1:Request) (Ak:Typ×Bool) (Ai:(List Int)) (Ab:List (List Int)) (Af:Int) (Ad:Int) (Ag:Int→Int→Option ((List (List Int)))) (Aa:Int) (Ac:Int):Option ((List (List Int))) :=
  bif (decide (Ac≥0)) then Qab (ix Ab Ac) λAm=>Qab (Qon fu r1 Ai Ak.1 Am Ad) λAj=>bif Aj then Qkf fu Ag Ac Ac else Qkf fu Ag Ac Aa else bif (decide (Aa<0)) then Qab (Qc7 24 Ab [([Ad]:List Int)]) λAl=>Qjv fu Ae Af Al else Qab (ix Ab Aa) λAh=>Qab (Qc7 8 Ah (([Ad]:List Int))) λAo=>Qab (ix Ab Aa) λAp=>Qjv fu Ae Af (Qi0 Ab Aa Ao)
def Qfb (fu:Nat) (Ab:List (List Int)→Int→Option ((List (List Int)))) (r1:Request) (Af:Typ×Bool) (Ae:(List Int)) (Ac:List (List Int)) (Ad:Int) (Aa:Int):Nat→Int→Int→Option ((List (List Int)))
  | 0=>λ_ _=>none
  | n+1=>Qmv fu Ab r1 Af Ae Ac Ad Aa (Qfb fu Ab r1 Af Ae Ac Ad Aa n)
def Qmf (fu:Nat)  (r1:Request) (Ai:List Int) (Ah:Typ×Bool) (Ag:(List Int)) (Ac:(List Int)) (Ae:List (List Int)→Int→Option ((List (List Int)))) (Aa:List (List Int)) (Ab:Int):Option ((List (List Int))) :=
  bif (decide (Ab<(Ac.length:Int))) then Qab (ix Ac Ab) λAf=>Qab (ix Ai Af) λAd=>Qfb fu Ae r1 Ah Ag Aa Ab Ad fu ((-1)) (w64 ((Aa.length:Int) - 1)) else some (Aa)
def Qcg (fu:Nat)  (r1:Request) (Ad:List Int) (Ab:Typ×Bool) (Aa:(List Int)) (Ac:(List Int)):Nat→List (List Int)→Int→Option ((List (List Int)))
  | 0=>λ_ _=>none
  | n+1=>Qmf fu r1 Ad Ab Aa Ac (Qcg fu r1 Ad Ab Aa Ac n)
def Qmo (fu:Nat)  (r1:Request) (Ab:List Int) (Ag:Typ×Bool) (Ad:(List Int)) (k1:List Int→Int→Option ((List (List Int)))) (Ac:List Int) (Aa:Int):Option ((List (List Int))) :=
  bif (decide (Aa<(Ab.length:Int))) then Qab (sls Ab Aa (w64 (Aa+1))) λAf=>Qab (Qp7 fu r1 Ad Af) λAh=>Qab (Qc7 8 Ac (([Ah.fvol]:List Int))) λAe=>k1 Ae (w64 (Aa+1)) else Qab (Qhb fu Ac) λAi=>Qcg fu r1 Ab Ag Ad Ai fu (([]:List (List Int))) 0
def Qgy (fu:Nat)  (r1:Request) (Ac:List Int) (Ab:Typ×Bool) (Aa:(List Int)):Nat→List Int→Int→Option ((List (List Int)))
  | 0=>λ_ _=>none
  | n+1=>Qmo fu r1 Ac Ab Aa (Qgy fu r1 Ac Ab Aa n)
def Qtx (fu:Nat) (r1:Request) (Ac:List Int):Option ((List (List Int))) :=
  Qab (Qfm fu r1) λAb=>Qab (Qcs fu r1) λAa=>Qgy fu r1 Ac Ab Aa fu (([]:List Int)) 0
def Qpe (fu:Nat) (r1:Request) (Ae:List Int):Option ((List (List Int))) :=
  Qab (Qd6 fu r1) λAc=>bif (Ac != 0) then some (([]:List (List Int))) else Qab (Qcs fu r1) λAd=>Qab (Qlj fu Ad Ae) λAa=>Qab (Qtx fu r1 Aa) λAb=>some (Ab)
def Qqv (fu:Nat) (r1:Request) (Aa:List Int):Option ((List (List Int))) :=
  bif (r1.f0==1) then Qab (Qqr fu r1 Aa) λAc=>some (Ac) else Qab (Qpe fu r1 Aa) λAb=>some (Ab)
def Qsx (fu:Nat) (r1:Request) (Ac:List Int) (t9:Typ) (Ab:(List Int))  : Option (Bool) :=
  Qab (Qp7 fu r1 Ab Ac) λAa=>Qab (Qj9 fu t9.fW t9.fH t9.fD) λAd=>bif (decide (Aa.fvol≤Ad)) then some (decide (Aa.fgram≤t9.fQ)) else some (false)
def Qsl (fu:Nat) (Ab:Int→Option (Bool)) (Aa:Int)  : Option (Bool) :=
  Ab (w64 (Aa+1))
def Qs1 (fu:Nat) (Ae:Int→Option (Bool)) (t9:Typ) (Ab:Int) (Ad:Item) (Ac:Bool):Option (Bool) :=
  bif (!Ac) then some (false) else Qab (Qpn fu Ad t9) λAa=>bif (!Aa) then some (false) else Qsl fu Ae Ab
def Qp8 (fu:Nat)  (r1:Request) (Aa:List Int) (t9:Typ) (Ad:(List Int)) (Af:Int→Option (Bool)) (Ab:Int):Option (Bool) :=
  bif (decide (Ab<(Aa.length:Int))) then Qab (ix Aa Ab) λAe=>Qab (Qkm fu r1 Ad Ae) λAc=>Qs1 fu Af t9 Ab Ac.1 Ac.2 else Qsx fu r1 Aa t9 Ad
def Qfq (fu:Nat)  (r1:Request) (Ab:List Int) (t9:Typ) (Aa:(List Int)):Nat→Int→Option (Bool)
  | 0=>λ_=>none
  | n+1=>Qp8 fu r1 Ab t9 Aa (Qfq fu r1 Ab t9 Aa n)
def Qtj (fu:Nat) (r1:Request) (Ab:List Int) (t9:Typ):Option (Bool) :=
  Qab (Qd6 fu r1) λAc=>bif (Ac != 0) then some (false) else Qab (Qcs fu r1) λAa=>Qfq fu r1 Ab t9 Aa fu 0
def Qdo (fu:Nat) (k3:Typ→Bool→Int→Option (Typ×Bool)) (Ab:Int) (Ac:Typ) (Aa:Bool):Option (Typ×Bool) :=
  k3 Ac Aa (w64 (Ab+1))
def Qko (fu:Nat)  (r1:Request) (Af:List Int) (k3:Typ→Bool→Int→Option (Typ×Bool)) (Ac:Typ) (Ad:Bool) (Aa:Int):Option (Typ×Bool) :=
  bif (decide (Aa<(r1.fU.length:Int))) then Qab (ix r1.fU Aa) λAb=>Qab (Qtj fu r1 Af Ab) λAe=>bif (!Ae) then Qdo fu k3 Aa Ac Ad else bif (!Ad) then Qdo fu k3 Aa Ab true else bif (decide (Ab.fl<Ac.fl)) then Qdo fu k3 Aa Ab true else bif (Ab.fl==Ac.fl) then bif (decide (Ab.ft<Ac.ft)) then Qdo fu k3 Aa Ab true else Qdo fu k3 Aa Ac Ad else Qdo fu k3 Aa Ac Ad else some (Ac,Ad)
def Qei (fu:Nat)  (r1:Request) (Aa:List Int):Nat→Typ→Bool→Int→Option (Typ×Bool)
  | 0=>λ_ _ _=>none
  | n+1=>Qko fu r1 Aa (Qei fu r1 Aa n)
def Qo1 (fu:Nat) (r1:Request) (Aa:List Int):Option (Typ×Bool) :=
  Qei fu r1 Aa fu (⟨0,0,0,0,0,0,0⟩:Typ) false 0
def Qmi (fu:Nat) (Aa:List Carton→Int→Option ((List Carton))) (Ac:Int) (Ab:List Carton):Option ((List Carton)) :=
  Aa Ab (w64 (Ac+1))
def Qig (fu:Nat) (Ac:List Carton→Int→Option ((List Carton))) (Aa:Int) (Ab:List Carton):Option ((List Carton)) :=
  Ac Ab (w64 (Aa+1))
def Qi8 (fu:Nat) (Ah:List Carton→Int→Option ((List Carton))) (Aj:Int) (Ag:(List (List Int))) (Am:List Carton) (Ab:Int) (Ao:Typ) (Ad:(List Int)) (Ak:List Int→Int→Option ((List Carton))) (Ac:List Int) (Aa:Int):Option ((List Carton)) :=
  bif (decide (Aa<(Ad.length:Int))) then Qab (ix Ag Ab) λAi=>Qab (ix Ad Aa) λAl=>Qab (ix Ai Al) λAf=>Qab (Qc7 8 Ac (([Af]:List Int))) λAp=>Ak Ap (w64 (Aa+1)) else Qab (Qc7 40 Am [(⟨Ao.ft,Aj,Ac⟩:Carton)]) λAe=>Qig fu Ah Ab Ae
def Qfe (fu:Nat) (Ac:List Carton→Int→Option ((List Carton))) (Ae:Int) (Ab:(List (List Int))) (Af:List Carton) (Aa:Int) (Ag:Typ) (Ad:(List Int)):Nat→List Int→Int→Option ((List Carton))
  | 0=>λ_ _=>none
  | n+1=>Qi8 fu Ac Ae Ab Af Aa Ag Ad (Qfe fu Ac Ae Ab Af Aa Ag Ad n)
def Qmc (fu:Nat) (Ac:List Carton→Int→Option ((List Carton))) (Af:Int) (Ab:(List (List Int))) (Ag:List Carton) (Aa:Int) (Ah:Typ):Option ((List Carton)) :=
  Qab (ix Ab Aa) λAe=>Qab (Qow fu Ae) λAd=>Qfe fu Ac Af Ab Ag Aa Ah Ad fu (([]:List Int)) 0
def Qjc (fu:Nat) (Ae:List Carton→Int→Option ((List Carton))) (r1:Request) (Ac:Int) (Ab:(List (List Int))) (Af:List Carton→Int→Option ((List Carton))) (Ad:List Carton) (Aa:Int):Option ((List Carton)) :=
  bif (decide (Aa<(Ab.length:Int))) then Qab (ix Ab Aa) λAg=>Qab (Qo1 fu r1 Ag) λAh=>Qmc fu Af Ac Ab Ad Aa Ah.1 else Qmi fu Ae Ac Ad
def Qbu (fu:Nat) (Aa:List Carton→Int→Option ((List Carton))) (r1:Request) (Ac:Int) (Ab:(List (List Int))):Nat→List Carton→Int→Option ((List Carton))
  | 0=>λ_ _=>none
  | n+1=>Qjc fu Aa r1 Ac Ab (Qbu fu Aa r1 Ac Ab n)
def Qjg (fu:Nat)  (r1:Request) (Af:(List (List Int))) (Ad:List Carton→Int→Option ((List Carton))) (Ab:List Carton) (Aa:Int):Option ((List Carton)) :=
  bif (decide (Aa<(Af.length:Int))) then Qab (Qql fu r1 Aa) λAc=>Qab (Qqv fu r1 Ac) λAe=>Qbu fu Ad r1 Aa Ae fu Ab 0 else some (Ab)
def Qa7 (fu:Nat)  (r1:Request) (Aa:(List (List Int))):Nat→List Carton→Int→Option ((List Carton))
  | 0=>λ_ _=>none
  | n+1=>Qjg fu r1 Aa (Qa7 fu r1 Aa n)
def Qlv (fu:Nat) (r1:Request):Option ((List Carton)) :=
  Qab (Qh0 fu r1) λAa=>Qa7 fu r1 Aa fu (([]:List Carton)) 0
def Qku (fu:Nat)  (r1:Request) (Ac:Int) (k1:Int→Option (Typ×Bool)) (Aa:Int):Option (Typ×Bool) :=
  bif (decide (Aa<(r1.fU.length:Int))) then Qab (ix r1.fU Aa) λAb=>bif (Ab.ft==Ac) then Qab (ix r1.fU Aa) λAd=>some (Ab,true) else k1 (w64 (Aa+1)) else some ((⟨0,0,0,0,0,0,0⟩:Typ),false)
def Qfu (fu:Nat)  (r1:Request) (Aa:Int):Nat→Int→Option (Typ×Bool)
  | 0=>λ_=>none
  | n+1=>Qku fu r1 Aa (Qfu fu r1 Aa n)
def Qjr (fu:Nat) (r1:Request) (Aa:Int):Option (Typ×Bool) :=
  Qfu fu r1 Aa fu 0
def Qtg (fu:Nat) (r1:Request):Option ((List Int)) :=
  Qab (Qd6 fu r1) λAa=>bif (Aa != 0) then some (([]:List Int)) else Qab (Qcs fu r1) λAb=>some (Ab)
def Qrp (fu:Nat) (k7:Int→Int→Option (Int)) (Ab:Int) (Aa:Int):Option (Int) :=
  k7 Aa (w64 (Ab+1))
def Qrh (fu:Nat) (k7:Int→Int→Option (Int)) (Ab:Int) (Ac:Int) (Aa:Item):Option (Int) :=
  Qrp fu k7 Ac (w64 (Ab+Aa.fQ))
def Qox (fu:Nat)  (r1:Request) (Ac:List Int) (Ae:(List Int)) (k7:Int→Int→Option (Int)) (Ab:Int) (Aa:Int):Option (Int) :=
  bif (decide (Aa<(Ac.length:Int))) then Qab (ix Ac Aa) λAd=>Qab (Qkm fu r1 Ae Ad) λAf=>Qrh fu k7 Ab Aa Af.1 else some (Ab)
def Qem (fu:Nat)  (r1:Request) (Ab:List Int) (Aa:(List Int)):Nat→Int→Int→Option (Int)
  | 0=>λ_ _=>none
  | n+1=>Qox fu r1 Ab Aa (Qem fu r1 Ab Aa n)
def Qr4 (fu:Nat) (r1:Request) (Ab:List Int):Option (Int) :=
  Qab (Qtg fu r1) λAa=>Qem fu r1 Ab Aa fu 0 0
def Qsq (fu:Nat) (r1:Request) (x5:Carton) (Ab:Typ×Bool)  : Option (Int) :=
  Qab (Qr4 fu r1 x5.fO) λAa=>some (w64 (Ab.1.qQ+Aa))
def Qs9 (fu:Nat) (r1:Request) (x5:Carton):Option (Int) :=
  Qab (Qjr fu r1 x5.qY) λAa=>Qab (Qd6 fu r1) λAb=>bif (Ab != 0) then some (0) else bif (!Aa.2) then some (0) else Qsq fu r1 x5 Aa
def Qss (fu:Nat) (r1:Request) (x5:Carton) (Aa:Typ×Bool)  : Option (Box) :=
  Qab (Qs9 fu r1 x5) λAb=>some (⟨Aa.1.fW,Aa.1.fD,Aa.1.fH,Ab⟩:Box)
def Qth (fu:Nat) (r1:Request) (x5:Carton):Option (Box) :=
  Qab (Qjr fu r1 x5.qY) λAa=>Qab (Qd6 fu r1) λAb=>bif (Ab != 0) then some (⟨0,0,0,0⟩:Box) else bif (!Aa.2) then some (⟨0,0,0,0⟩:Box) else Qss fu r1 x5 Aa
def Qpj (fu:Nat) (k3:Int→Option (Bool)) (Aa:Int)  : Option (Bool) :=
  k3 (w64 (Aa+1))
def Qmm (fu:Nat)  (p1:Pallet) (Ac:List Box) (k3:Int→Option (Bool)) (Ab:Int):Option (Bool) :=
  bif (decide (Ab<(Ac.length:Int))) then Qab (ix Ac Ab) λAa=>Qab (Qan fu Aa.fW 1 p1.fW) λAf=>bif (!Af) then some (false) else Qab (Qan fu Aa.fD 1 p1.fD) λAd=>bif (!Ad) then some (false) else Qab (Qan fu Aa.fH 1 p1.fH) λAg=>bif (!Ag) then some (false) else Qab (Qan fu Aa.fQ 1 p1.fQ) λAe=>bif (!Ae) then some (false) else Qpj fu k3 Ab else some (true)
def Qe3 (fu:Nat)  (p1:Pallet) (Aa:List Box):Nat→Int→Option (Bool)
  | 0=>λ_=>none
  | n+1=>Qmm fu p1 Aa (Qe3 fu p1 Aa n)
def Qlc (fu:Nat) (p1:Pallet) (Ab:List Box):Option (Bool) :=
  Qab (Qg8 fu p1) λAa=>bif (!Aa) then some (false) else Qe3 fu p1 Ab fu 0
def Qjt (fu:Nat) (a1:Int) (b2:Int):Option (Int) :=
  bif (decide (a1>b2)) then some (a1) else some (b2)
def Qgj (fu:Nat) (Aa:Shelf) (Ac:Int) (b6:Box):Option (Shelf) :=
  Qab (Qc7 8 (([]:List Int)) Aa.fM) λAd=>Qab (Qc7 8 Ad (([Ac]:List Int))) λAf=>Qab (Qjt fu Aa.fD b6.fD) λAe=>Qab (Qjt fu Aa.fH b6.fH) λAb=>some (⟨Af,w64 (Aa.fW+b6.fW),Ae,Ab,w64 (Aa.fQ+b6.fQ)⟩:Shelf)
def Qgz (fu:Nat) (k4:List Shelf→Int→Option ((List Shelf))) (Aa:Int) (Ab:List Shelf):Option ((List Shelf)) :=
  k4 Ab (w64 (Aa+1))
def Qm5 (fu:Nat)  (p1:Pallet) (Ah:List Box) (Ad:(List Int)) (k4:List Shelf→Int→Option ((List Shelf))) (Aa:List Shelf) (Ab:Int):Option ((List Shelf)) :=
  bif (decide (Ab<(Ad.length:Int))) then Qab (ix Ad Ab) λAe=>Qab (ix Ah Ae) λAc=>bif (decide ((Aa.length:Int)>0)) then Qab (ix Aa (w64 ((Aa.length:Int) - 1))) λAf=>bif (decide ((w64 (Af.fW+Ac.fW))≤p1.fW)) then Qab (ix Aa (w64 ((Aa.length:Int) - 1))) λAt=>bif (decide ((w64 (Af.fQ+Ac.fQ))≤p1.fQ)) then Qab (ix Aa (w64 ((Aa.length:Int) - 1))) λAs=>Qab (ix Ad Ab) λAp=>Qab (Qgj fu Af Ae Ac) λAo=>Qab (ix Aa (w64 ((Aa.length:Int) - 1))) λAr=>Qgz fu k4 Ab (Qi0 Aa (w64 ((Aa.length:Int) - 1)) Ao) else Qab (ix Ad Ab) λAv=>Qab (Qgj fu (⟨[],0,0,0,0⟩:Shelf) Ae Ac) λAm=>Qab (Qc7 56 Aa [Am]) λAl=>Qgz fu k4 Ab Al else Qab (ix Ad Ab) λAq=>Qab (Qgj fu (⟨[],0,0,0,0⟩:Shelf) Ae Ac) λAj=>Qab (Qc7 56 Aa [Aj]) λAg=>Qgz fu k4 Ab Ag else Qab (ix Ad Ab) λAu=>Qab (Qgj fu (⟨[],0,0,0,0⟩:Shelf) Ae Ac) λAi=>Qab (Qc7 56 Aa [Ai]) λAk=>Qgz fu k4 Ab Ak else some (Aa)
def Qd8 (fu:Nat)  (p1:Pallet) (Aa:List Box) (Ab:(List Int)):Nat→List Shelf→Int→Option ((List Shelf))
  | 0=>λ_ _=>none
  | n+1=>Qm5 fu p1 Aa Ab (Qd8 fu p1 Aa Ab n)
def Qmw (fu:Nat)  (p1:Pallet) (Aa:List Box) (k1:List Int→Int→Option ((List Shelf))) (Ac:List Int) (Ab:Int):Option ((List Shelf)) :=
  bif (decide (Ab<(Aa.length:Int))) then Qab (ix Aa Ab) λAf=>Qab (Qc7 8 Ac (([Af.fD]:List Int))) λAd=>k1 Ad (w64 (Ab+1)) else Qab (Qhb fu Ac) λAe=>Qd8 fu p1 Aa Ae fu (([]:List Shelf)) 0
def Qgr (fu:Nat)  (p1:Pallet) (Aa:List Box):Nat→List Int→Int→Option ((List Shelf))
  | 0=>λ_ _=>none
  | n+1=>Qmw fu p1 Aa (Qgr fu p1 Aa n)
def Qqe (fu:Nat) (p1:Pallet) (Aa:List Box):Option ((List Shelf)) :=
  Qab (Qlc fu p1 Aa) λAb=>bif (!Ab) then some (([]:List Shelf)) else Qgr fu p1 Aa fu (([]:List Int)) 0
def Qq6 (fu:Nat) (p1:Pallet) (d2:Int) (h3:Int) (Ac:Int):Option (Bool) :=
  Qab (Qan fu d2 1 p1.fD) λx8=>bif x8 then Qab (Qan fu h3 1 p1.fH) λAb=>bif Ab then Qab (Qan fu Ac 1 p1.fQ) λAa=>some (Aa) else some (false) else some (false)
def Qjp (fu:Nat)  (p1:Pallet) (Ab:List Shelf) (k1:Int→Option (Bool)) (Aa:Int):Option (Bool) :=
  bif (decide (Aa<(Ab.length:Int))) then Qab (ix Ab Aa) λAc=>Qab (ix Ab Aa) λAf=>Qab (ix Ab Aa) λAe=>Qab (Qq6 fu p1 Ac.fD Ac.fH Ac.fQ) λAd=>bif (!Ad) then some (false) else k1 (w64 (Aa+1)) else some (true)
def Qfa (fu:Nat)  (p1:Pallet) (Aa:List Shelf):Nat→Int→Option (Bool)
  | 0=>λ_=>none
  | n+1=>Qjp fu p1 Aa (Qfa fu p1 Aa n)
def Qlo (fu:Nat) (p1:Pallet) (Ab:List Shelf):Option (Bool) :=
  Qab (Qg8 fu p1) λAa=>bif (!Aa) then some (false) else Qfa fu p1 Ab fu 0
def Qob (fu:Nat) (k7:List Layer→Int→Option ((List Layer))) (Ab:Int) (Aa:List Layer):Option ((List Layer)) :=
  k7 Aa (w64 (Ab+1))
def Qcz (fu:Nat) (k7:List Layer→Int→Option ((List Layer))) (Ae:Int) (Ac:Shelf) (Ab:List Layer) (Ad:Int):Option ((List Layer)) :=
  Qab (ix Ab (w64 (Ad - 1))) λAa=>Qab (Qc7 8 (([]:List Int)) Aa.fP) λAf=>Qab (Qc7 8 Af (([Ae]:List Int))) λAg=>Qab (Qjt fu Aa.fH Ac.fH) λAh=>Qab (ix Ab (w64 (Ad - 1))) λAi=>Qob fu k7 Ae (Qi0 Ab (w64 (Ad - 1)) (⟨Ag,w64 (Aa.fD+Ac.fD),Ah,w64 (Aa.fQ+Ac.fQ)⟩:Layer))
def Qk4 (fu:Nat)  (p1:Pallet) (Ad:List Shelf) (k7:List Layer→Int→Option ((List Layer))) (Aa:List Layer) (Ac:Int):Option ((List Layer)) :=
  bif (decide (Ac<(Ad.length:Int))) then Qab (ix Ad Ac) λAb=>bif ((Aa.length:Int)==0) then Qab (Qc7 48 Aa [(⟨[],0,0,0⟩:Layer)]) λAg=>Qcz fu k7 Ac Ab Ag (w64 ((Aa.length:Int)+1)) else Qab (ix Aa (w64 ((Aa.length:Int) - 1))) λAe=>bif (decide ((w64 (Ae.fD+Ab.fD))>p1.fD)) then Qab (Qc7 48 Aa [(⟨[],0,0,0⟩:Layer)]) λAf=>Qcz fu k7 Ac Ab Af (w64 ((Aa.length:Int)+1)) else Qab (ix Aa (w64 ((Aa.length:Int) - 1))) λAi=>bif (decide ((w64 (Ae.fQ+Ab.fQ))>p1.fQ)) then Qab (Qc7 48 Aa [(⟨[],0,0,0⟩:Layer)]) λAh=>Qcz fu k7 Ac Ab Ah (w64 ((Aa.length:Int)+1)) else Qcz fu k7 Ac Ab Aa (Aa.length:Int) else some (Aa)
def Qbe (fu:Nat)  (p1:Pallet) (Aa:List Shelf):Nat→List Layer→Int→Option ((List Layer))
  | 0=>λ_ _=>none
  | n+1=>Qk4 fu p1 Aa (Qbe fu p1 Aa n)
def Qo3 (fu:Nat) (p1:Pallet) (Aa:List Shelf):Option ((List Layer)) :=
  Qab (Qlo fu p1 Aa) λAb=>bif (!Ab) then some (([]:List Layer)) else Qbe fu p1 Aa fu (([]:List Layer)) 0
def Qk0 (fu:Nat)  (p1:Pallet) (Ab:List Layer) (k1:Int→Option (Bool)) (Aa:Int):Option (Bool) :=
  bif (decide (Aa<(Ab.length:Int))) then Qab (ix Ab Aa) λAc=>Qab (ix Ab Aa) λAf=>Qab (ix Ab Aa) λAe=>Qab (Qq6 fu p1 Ac.fD Ac.fH Ac.fQ) λAd=>bif (!Ad) then some (false) else k1 (w64 (Aa+1)) else some (true)
def Qfy (fu:Nat)  (p1:Pallet) (Aa:List Layer):Nat→Int→Option (Bool)
  | 0=>λ_=>none
  | n+1=>Qk0 fu p1 Aa (Qfy fu p1 Aa n)
def Qpd (fu:Nat) (p1:Pallet) (Ab:List Layer):Option (Bool) :=
  Qab (Qg8 fu p1) λAa=>bif (!Aa) then some (false) else Qfy fu p1 Ab fu 0
def Qpk (fu:Nat) (k7:List Load→Int→Option ((List Load))) (Ab:Int) (Aa:List Load):Option ((List Load)) :=
  k7 Aa (w64 (Ab+1))
def Qdc (fu:Nat) (k7:List Load→Int→Option ((List Load))) (Ae:Int) (Ad:Layer) (Ac:List Load) (Aa:Int):Option ((List Load)) :=
  Qab (ix Ac (w64 (Aa - 1))) λAb=>Qab (Qc7 8 (([]:List Int)) Ab.fL) λAf=>Qab (Qc7 8 Af (([Ae]:List Int))) λAg=>Qab (ix Ac (w64 (Aa - 1))) λAh=>Qpk fu k7 Ae (Qi0 Ac (w64 (Aa - 1)) (⟨Ag,w64 (Ab.fH+Ad.fH),w64 (Ab.fQ+Ad.fQ)⟩:Load))
def Qm3 (fu:Nat)  (p1:Pallet) (Ae:List Layer) (k7:List Load→Int→Option ((List Load))) (Aa:List Load) (Ab:Int):Option ((List Load)) :=
  bif (decide (Ab<(Ae.length:Int))) then Qab (ix Ae Ab) λAc=>bif ((Aa.length:Int)==0) then Qab (Qc7 40 Aa [(⟨[],0,0⟩:Load)]) λAh=>Qdc fu k7 Ab Ac Ah (w64 ((Aa.length:Int)+1)) else Qab (ix Aa (w64 ((Aa.length:Int) - 1))) λAd=>bif (decide ((w64 (Ad.fH+Ac.fH))>p1.fH)) then Qab (Qc7 40 Aa [(⟨[],0,0⟩:Load)]) λAf=>Qdc fu k7 Ab Ac Af (w64 ((Aa.length:Int)+1)) else Qab (ix Aa (w64 ((Aa.length:Int) - 1))) λAi=>bif (decide ((w64 (Ad.fQ+Ac.fQ))>p1.fQ)) then Qab (Qc7 40 Aa [(⟨[],0,0⟩:Load)]) λAg=>Qdc fu k7 Ab Ac Ag (w64 ((Aa.length:Int)+1)) else Qdc fu k7 Ab Ac Aa (Aa.length:Int) else some (Aa)
def Qbm (fu:Nat)  (p1:Pallet) (Aa:List Layer):Nat→List Load→Int→Option ((List Load))
  | 0=>λ_ _=>none
  | n+1=>Qm3 fu p1 Aa (Qbm fu p1 Aa n)
def Qqg (fu:Nat) (p1:Pallet) (Aa:List Layer):Option ((List Load)) :=
  Qab (Qpd fu p1 Aa) λAb=>bif (!Ab) then some (([]:List Load)) else Qbm fu p1 Aa fu (([]:List Load)) 0
def Qmn (fu:Nat) (Al:List Spot→Int→Int→Option ((List Spot))) (Ag:List Box) (Am:Int) (Ah:Int) (Af:Int) (Ai:Int) (Ab:Shelf) (Aj:List Spot→Int→Int→Option ((List Spot))) (Ac:List Spot) (Ae:Int) (Aa:Int):Option ((List Spot)) :=
  bif (decide (Aa<(Ab.fM.length:Int))) then Qab (ix Ab.fM Aa) λAd=>Qab (ix Ac Ad) λAp=>Qab (ix Ab.fM Aa) λAo=>Qab (ix Ag Ad) λAk=>Aj (Qi0 Ac Ad (⟨Am,Ae,Af,Ah⟩:Spot)) (w64 (Ae+Ak.fW)) (w64 (Aa+1)) else Al Ac (w64 (Af+Ab.fD)) (w64 (Ai+1))
def Qgt (fu:Nat) (Af:List Spot→Int→Int→Option ((List Spot))) (Aa:List Box) (Ag:Int) (Ab:Int) (Ad:Int) (Ac:Int) (Ae:Shelf):Nat→List Spot→Int→Int→Option ((List Spot))
  | 0=>λ_ _ _=>none
  | n+1=>Qmn fu Af Aa Ag Ab Ad Ac Ae (Qgt fu Af Aa Ag Ab Ad Ac Ae n)
def Qna (fu:Nat) (Ai:List Spot→Int→Int→Option ((List Spot))) (Af:List Box) (Ah:(List Shelf)) (Am:Int) (Ac:Int) (Ag:Int) (Ab:Layer) (Al:List Spot→Int→Int→Option ((List Spot))) (Ad:List Spot) (Aj:Int) (Aa:Int):Option ((List Spot)) :=
  bif (decide (Aa<(Ab.fP.length:Int))) then Qab (ix Ab.fP Aa) λAe=>Qab (ix Ah Ae) λAk=>Qgt fu Al Af Am Ac Aj Aa Ak fu Ad 0 0 else Ai Ad (w64 (Ac+Ab.fH)) (w64 (Ag+1))
def Qde (fu:Nat) (Ae:List Spot→Int→Int→Option ((List Spot))) (Aa:List Box) (Ad:(List Shelf)) (Ag:Int) (Ab:Int) (Ac:Int) (Af:Layer):Nat→List Spot→Int→Int→Option ((List Spot))
  | 0=>λ_ _ _=>none
  | n+1=>Qna fu Ae Aa Ad Ag Ab Ac Af (Qde fu Ae Aa Ad Ag Ab Ac Af n)
def Qm1 (fu:Nat) (Ai:List Spot→Int→Option ((List Spot))) (Ag:List Box) (Aj:(List Shelf)) (Af:(List Layer)) (Ae:(List Load)) (Aa:Int) (Ak:List Spot→Int→Int→Option ((List Spot))) (Ac:List Spot) (Ah:Int) (Ab:Int):Option ((List Spot)) :=
  Qab (ix Ae Aa) λAd=>bif (decide (Ab<(Ad.fL.length:Int))) then Qab (ix Ae Aa) λAo=>Qab (ix Ad.fL Ab) λAm=>Qab (ix Af Am) λAl=>Qde fu Ak Ag Aj Aa Ah Ab Al fu Ac 0 0 else Ai Ac (w64 (Aa+1))
def Qb3 (fu:Nat) (Ad:List Spot→Int→Option ((List Spot))) (Ab:List Box) (Ae:(List Shelf)) (Aa:(List Layer)) (Ac:(List Load)) (Af:Int):Nat→List Spot→Int→Int→Option ((List Spot))
  | 0=>λ_ _ _=>none
  | n+1=>Qm1 fu Ad Ab Ae Aa Ac Af (Qb3 fu Ad Ab Ae Aa Ac Af n)
def Qm6 (fu:Nat)  (Ae:List Box) (Ag:(List Shelf)) (Ad:(List Layer)) (Ab:(List Load)) (Af:List Spot→Int→Option ((List Spot))) (Aa:List Spot) (Ac:Int):Option ((List Spot)) :=
  bif (decide (Ac<(Ab.length:Int))) then Qb3 fu Af Ae Ag Ad Ab Ac fu Aa 0 0 else some (Aa)
def Qbh (fu:Nat)  (Ac:List Box) (Ad:(List Shelf)) (Aa:(List Layer)) (Ab:(List Load)):Nat→List Spot→Int→Option ((List Spot))
  | 0=>λ_ _=>none
  | n+1=>Qm6 fu Ac Ad Aa Ab (Qbh fu Ac Ad Aa Ab n)
def Qla (fu:Nat) (p1:Pallet) (Aa:List Box):Option ((List Spot)) :=
  Qab (mk 32 (⟨(0:Int),(0:Int),(0:Int),(0:Int)⟩:Spot) (Aa.length:Int)) λAd=>Qab (Qlc fu p1 Aa) λAf=>bif (!Af) then some (([]:List Spot)) else Qab (Qqe fu p1 Aa) λAc=>Qab (Qo3 fu p1 Ac) λAb=>Qab (Qqg fu p1 Ab) λAe=>Qbh fu Aa Ac Ab Ae fu Ad 0
def Qkh (fu:Nat) (k3:Int→Int→Option (Int)) (Ab:Int) (Aa:Int):Option (Int) :=
  k3 Aa (w64 (Ab+1))
def Qmy (fu:Nat)  (Ab:List Spot) (k3:Int→Int→Option (Int)) (Ac:Int) (Aa:Int):Option (Int) :=
  bif (decide (Aa<(Ab.length:Int))) then Qab (ix Ab Aa) λAd=>Qab (Qan fu Ad.fJ 0 999999) λAe=>bif Ae then Qab (ix Ab Aa) λAg=>Qab (Qjt fu Ac (w64 (Ad.fJ+1))) λAf=>Qkh fu k3 Aa Af else Qkh fu k3 Aa Ac else some (Ac)
def Qez (fu:Nat)  (Aa:List Spot):Nat→Int→Int→Option (Int)
  | 0=>λ_ _=>none
  | n+1=>Qmy fu Aa (Qez fu Aa n)
def Qqf (fu:Nat) (Aa:List Spot):Option (Int) :=
  Qez fu Aa fu 0 0
def Qlq (fu:Nat) (Ab:List Box→Int→Option (Plan×Bool)) (Ac:Int) (Aa:List Box):Option (Plan×Bool) :=
  Ab Aa (w64 (Ac+1))
def Qo8 (fu:Nat) (Ag:List Spot→Int→Int→Option (Plan×Bool)) (Ae:Int) (Af:Int) (Ab:(List Spot)) (Aj:List Spot→Int→Option (Plan×Bool)) (Ad:List Spot) (Ac:Int):Option (Plan×Bool) :=
  bif (decide (Ac<(Ab.length:Int))) then Qab (ix Ab Ac) λAa=>Qab (Qc7 32 Ad (([(⟨w64 (Aa.fJ+Ae),Aa.fX,Aa.fY,Aa.fZ⟩:Spot)]:List Spot))) λAh=>Aj Ah (w64 (Ac+1)) else Qab (Qqf fu Ab) λAi=>Ag Ad (w64 (Ae+Ai)) (w64 (Af+1))
def Qf5 (fu:Nat) (Ab:List Spot→Int→Int→Option (Plan×Bool)) (Ac:Int) (Aa:Int) (Ad:(List Spot)):Nat→List Spot→Int→Option (Plan×Bool)
  | 0=>λ_ _=>none
  | n+1=>Qo8 fu Ab Ac Aa Ad (Qf5 fu Ab Ac Aa Ad n)
def Qn5 (fu:Nat) (Ah:List Spot→Int→Int→Option (Plan×Bool)) (r1:Request) (Ab:(List Carton)) (Ak:List Spot) (Aj:Int) (Ad:Int) (Ae:List Box→Int→Option (Plan×Bool)) (Ac:List Box) (Aa:Int):Option (Plan×Bool) :=
  bif (decide (Aa<(Ab.length:Int))) then Qab (ix Ab Aa) λAf=>bif (Af.qJ==Ad) then Qab (ix Ab Aa) λAm=>Qab (Qth fu r1 Af) λAl=>Qab (Qc7 32 Ac (([Al]:List Box))) λAi=>Qlq fu Ae Aa Ai else Qlq fu Ae Aa Ac else Qab (Qla fu r1.fJ Ac) λAg=>Qf5 fu Ah Aj Ad Ag fu Ak 0
def Qgd (fu:Nat) (Ab:List Spot→Int→Int→Option (Plan×Bool)) (r1:Request) (Ac:(List Carton)) (Ae:List Spot) (Ad:Int) (Aa:Int):Nat→List Box→Int→Option (Plan×Bool)
  | 0=>λ_ _=>none
  | n+1=>Qn5 fu Ab r1 Ac Ae Ad Aa (Qgd fu Ab r1 Ac Ae Ad Aa n)
def Qo2 (fu:Nat)  (r1:Request) (Ab:(List Carton)) (Af:(List (List Int))) (Ad:List Spot→Int→Int→Option (Plan×Bool)) (Ac:List Spot) (Ae:Int) (Aa:Int):Option (Plan×Bool) :=
  bif (decide (Aa<(Af.length:Int))) then Qgd fu Ad r1 Ab Ac Ae Aa fu (([]:List Box)) 0 else some ((⟨Ab,Ac⟩:Plan),true)
def Qby (fu:Nat)  (r1:Request) (Ab:(List Carton)) (Aa:(List (List Int))):Nat→List Spot→Int→Int→Option (Plan×Bool)
  | 0=>λ_ _ _=>none
  | n+1=>Qo2 fu r1 Ab Aa (Qby fu r1 Ab Aa n)
def Qr6 (fu:Nat) (r1:Request):Option (Plan×Bool) :=
  Qab (Qd6 fu r1) λAa=>bif (Aa != 0) then some ((⟨[],[]⟩:Plan),false) else Qab (Qlv fu r1) λAc=>Qab (Qh0 fu r1) λAb=>Qby fu r1 Ac Ab fu (([]:List Spot)) 0 0
def Qij (fu:Nat) (k4:Int→Option (Bool)) (Aa:Int)  : Option (Bool) :=
  k4 (w64 (Aa+1))
def Qi9 (fu:Nat)  (x1:Carton) (k4:Int→Option (Bool)) (Aa:Int):Option (Bool) :=
  bif (decide (Aa<(x1.fO.length:Int))) then Qab (ix x1.fO Aa) λAb=>Qab (Qan fu Ab 0 999) λAc=>bif (!Ac) then some (false) else bif (decide (Aa>0)) then Qab (ix x1.fO Aa) λAe=>Qab (ix x1.fO (w64 (Aa - 1))) λAd=>bif (decide (Ab≤Ad)) then some (false) else Qij fu k4 Aa else Qij fu k4 Aa else some (true)
def Qd2 (fu:Nat)  (x1:Carton):Nat→Int→Option (Bool)
  | 0=>λ_=>none
  | n+1=>Qi9 fu x1 (Qd2 fu x1 n)
def Qnn (fu:Nat) (x1:Carton)  : Option (Bool) :=
  Qd2 fu x1 fu 0
def Qlr (fu:Nat) (x1:Carton):Option (Bool) :=
  Qab (Qme fu x1.qY) λAa=>bif (!Aa) then some (false) else Qab (Qan fu x1.qJ 0 3) λAb=>bif (!Ab) then some (false) else bif (decide ((x1.fO.length:Int)>100)) then some (false) else Qnn fu x1
def Qro (fu:Nat) (k4:Int→Option (Bool)) (Aa:Int)  : Option (Bool) :=
  k4 (w64 (Aa+1))
def Qo7 (fu:Nat)  (x1:Plan) (k4:Int→Option (Bool)) (Aa:Int):Option (Bool) :=
  bif (decide (Aa<(x1.fE.length:Int))) then Qab (ix x1.f9 Aa) λAb=>Qab (ix x1.fE Aa) λAd=>Qab (Qlr fu Ad) λAc=>bif (!Ac) then some (false) else Qab (Qan fu Ab.fJ 0 2000) λAh=>bif (!Ah) then some (false) else Qab (Qan fu Ab.fX 0 2000) λAg=>bif (!Ag) then some (false) else Qab (Qan fu Ab.fY 0 2000) λAe=>bif (!Ae) then some (false) else Qab (Qan fu Ab.fZ 0 2000) λAf=>bif (!Af) then some (false) else Qro fu k4 Aa else some (true)
def Qf4 (fu:Nat)  (x1:Plan):Nat→Int→Option (Bool)
  | 0=>λ_=>none
  | n+1=>Qo7 fu x1 (Qf4 fu x1 n)
def Qrl (fu:Nat) (x1:Plan)  : Option (Bool) :=
  Qf4 fu x1 fu 0
def Qse (fu:Nat) (x1:Plan):Option (Bool) :=
  bif ((x1.fE.length:Int) != (x1.f9.length:Int)) then some (false) else bif (decide ((x1.fE.length:Int)>100)) then some (false) else Qrl fu x1
def Qmj (fu:Nat)  (Ab:List Int) (k1:ByteArray→Int→Option (ByteArray)) (Ac:ByteArray) (Aa:Int):Option (ByteArray) :=
  bif (decide (Aa<(Ab.length:Int))) then Qab (Qs5 Ac (⟨#[32]⟩:ByteArray)) λAg=>Qab (ix Ab Aa) λAe=>Qab (Qil fu Ae) λAf=>Qab (Qs5 Ag Af) λAd=>k1 Ad (w64 (Aa+1)) else some (Ac)
def Qd7 (fu:Nat)  (Aa:List Int):Nat→ByteArray→Int→Option (ByteArray)
  | 0=>λ_ _=>none
  | n+1=>Qmj fu Aa (Qd7 fu Aa n)
def Qqw (fu:Nat) (x1:Carton) (Aa:Spot):Option (ByteArray) :=
  Qab (Qc7 8 (([x1.qY,x1.qJ,Aa.fJ,Aa.fX,Aa.fY,Aa.fZ]:List Int)) x1.fO) λAb=>Qd7 fu Ab fu (⟨#[99,97,114,116,111,110]⟩:ByteArray) 0
def Qkq (fu:Nat)  (x1:Plan) (k1:ByteArray→Int→Option (ByteArray)) (Ab:ByteArray) (Aa:Int):Option (ByteArray) :=
  bif (decide (Aa<(x1.fE.length:Int))) then Qab (ix x1.fE Aa) λAg=>Qab (ix x1.f9 Aa) λAc=>Qab (Qqw fu Ag Ac) λAf=>Qab (Qs5 Ab Af) λAd=>Qab (Qs5 Ad (⟨#[10]⟩:ByteArray)) λAe=>k1 Ae (w64 (Aa+1)) else some (Ab)
def Qef (fu:Nat)  (x1:Plan):Nat→ByteArray→Int→Option (ByteArray)
  | 0=>λ_ _=>none
  | n+1=>Qkq fu x1 (Qef fu x1 n)
def Qo6 (fu:Nat) (x1:Plan):Option (ByteArray) :=
  Qab (Qse fu x1) λAa=>bif (!Aa) then some (⟨#[]⟩:ByteArray) else Qef fu x1 fu (⟨#[]⟩:ByteArray) 0
def Quf (fu:Nat) (Aa:ByteArray):Option (ByteArray×Int) :=
  Qab (Qqc fu Aa) λx2=>bif (x2 != 0) then some ((⟨#[]⟩:ByteArray),x2) else Qab (Qir fu Aa) λx7=>Qab (Qr6 fu x7.1) λAb=>Qab (Qo6 fu Ab.1) λAc=>some (Ac,0)
def Qlm (fu:Nat) (Aa:Int):Option (ByteArray) :=
  Qab (Qan fu Aa 0 (w64 ((((([(⟨#[111,107]⟩:ByteArray),(⟨#[116,101,120,116]⟩:ByteArray),(⟨#[98,111,117,110,100,115]⟩:ByteArray),(⟨#[110,97,109,101,115]⟩:ByteArray),(⟨#[116,97,98,108,101]⟩:ByteArray),(⟨#[117,110,105,116]⟩:ByteArray),(⟨#[112,97,108,108,101,116]⟩:ByteArray)]:List ByteArray)).length:Int)) - 1))) λx7=>bif (!x7) then some (⟨#[]⟩:ByteArray) else Qab (ix (([(⟨#[111,107]⟩:ByteArray),(⟨#[116,101,120,116]⟩:ByteArray),(⟨#[98,111,117,110,100,115]⟩:ByteArray),(⟨#[110,97,109,101,115]⟩:ByteArray),(⟨#[116,97,98,108,101]⟩:ByteArray),(⟨#[117,110,105,116]⟩:ByteArray),(⟨#[112,97,108,108,101,116]⟩:ByteArray)]:List ByteArray)) Aa) λAb=>some (Ab)
def Qo9 (fu:Nat) (Ab:ByteArray):Option (ByteArray) :=
  Qab (Quf fu Ab) λx2=>bif (x2.2 != 0) then Qab (Qlm fu x2.2) λx7=>Qab (Qs5 (⟨#[33,32]⟩:ByteArray) x7) λAc=>Qab (Qs5 Ac (⟨#[10]⟩:ByteArray)) λAa=>some (Aa) else some (x2.1)
def Qq9 (fu:Nat) (Aa:(List Int)×Bool) (Ad:Int) (Ae:Int) (Ac:List Int):Option (Carton×Spot×Bool) :=
  Qab (ix Aa.1 2) λAg=>Qab (ix Aa.1 3) λAf=>Qab (ix Aa.1 4) λAh=>Qab (ix Aa.1 5) λAb=>Qab (Qjz fu ((⟨([(⟨Ad,Ae,Ac⟩:Carton)]:List Carton),([(⟨Ag,Af,Ah,Ab⟩:Spot)]:List Spot)⟩:Plan))) λAi=>bif (!Ai) then some ((⟨0,0,[]⟩:Carton),(⟨0,0,0,0⟩:Spot),false) else some ((⟨Ad,Ae,Ac⟩:Carton),(⟨Ag,Af,Ah,Ab⟩:Spot),true)
def Qrg (fu:Nat) (Aa:(List Int)×Bool)  : Option (Carton×Spot×Bool) :=
  Qab (ix Aa.1 0) λAb=>Qab (ix Aa.1 1) λAc=>Qab (sls Aa.1 6 (Aa.1.length:Int)) λAd=>Qq9 fu Aa Ab Ac Ad
def Qr9 (fu:Nat) (Ab:ByteArray):Option (Carton×Spot×Bool) :=
  Qab (Qjd fu Ab 32) λx8=>Qab (Qbo fu Ab (⟨#[99,97,114,116,111,110]⟩:ByteArray) (w64 ((x8.length:Int) - 1))) λAa=>bif (!Aa.2) then some ((⟨0,0,[]⟩:Carton),(⟨0,0,0,0⟩:Spot),false) else bif (decide ((w64 ((x8.length:Int) - 1))<6)) then some ((⟨0,0,[]⟩:Carton),(⟨0,0,0,0⟩:Spot),false) else Qrg fu Aa
def Qkv (fu:Nat)  (Ad:List ByteArray) (k2:List Carton→List Spot→Int→Option (Plan×Bool)) (Ac:List Carton) (Ae:List Spot) (Ab:Int):Option (Plan×Bool) :=
  bif (decide (Ab<(Ad.length:Int))) then Qab (ix Ad Ab) λAh=>Qab (Qr9 fu Ah) λAa=>bif (!Aa.2.2) then some ((⟨[],[]⟩:Plan),false) else Qab (Qc7 40 Ac [Aa.1]) λAf=>Qab (Qc7 32 Ae (([Aa.2.1]:List Spot))) λAg=>k2 Af Ag (w64 (Ab+1)) else some ((⟨Ac,Ae⟩:Plan),true)
def Qfs (fu:Nat)  (Aa:List ByteArray):Nat→List Carton→List Spot→Int→Option (Plan×Bool)
  | 0=>λ_ _ _=>none
  | n+1=>Qkv fu Aa (Qfs fu Aa n)
def Qnt (fu:Nat) (x5:(List ByteArray))  : Option (Plan×Bool) :=
  Qab (sls x5 0 (w64 ((x5.length:Int) - 1))) λAa=>Qfs fu Aa fu (([]:List Carton)) (([]:List Spot)) 0
def Qoi (fu:Nat) (Aa:ByteArray):Option (Plan×Bool) :=
  Qab (Qjd fu Aa 10) λx5=>Qab (ix x5 (w64 ((x5.length:Int) - 1))) λAb=>bif (!(Ab.toList==(⟨#[]⟩:ByteArray).toList)) then some ((⟨[],[]⟩:Plan),false) else bif (decide ((w64 ((x5.length:Int) - 1))>100)) then some ((⟨[],[]⟩:Plan),false) else Qnt fu x5
end Go.Proofs.YthkaklkinepfkaaGreatDoor
