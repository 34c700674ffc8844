/- FnPlanned: what the .. -/
import Derived.Test.YtpcmapfabndggaaGreatDoorS13
import Derived.Test.YtpcmapfabndggaaGreatDoorS15
import Derived.Test.YtpcmapfabndggaaGreatDoorS21
set_option linter.unusedVariables false
namespace Go.Proofs.YtpcmapfabndggaaGreatDoor
open Go
def Qv4 (fu:Nat) (Aa:List U8):Option (Bool) :=
  some (decide ((Aa.length:Int)>1048576))
def Qrt (fu:Nat) (k3:Int→Int→Option (Cur)) (Ad:List U8) (Ac:Int) (Aa:Int)  : Option (Cur) :=
  Qac (ix Ad Aa) λAb=>k3 (IntKind.wrap .i64 (((BitVec.ofInt (IntKind.bits .i64) (w64 ((w64 ((w64 (Ac*131))+(w64 Ab.n)))+7)) &&& BitVec.ofInt (IntKind.bits .i64) 1073741823).toNat:Nat):Int)) (w64 (Aa+1))
def Qo8 (fu:Nat)  (Aa:List U8) (k3:Int→Int→Option (Cur)) (Ab:Int) (Ac:Int):Option (Cur) :=
  bif (decide (Ac<(Aa.length:Int))) then bif (decide (Ac<4000)) then Qrt fu k3 Aa Ab Ac else some (⟨Aa,0,Ab⟩:Cur) else some (⟨Aa,0,Ab⟩:Cur)
def Qhq (fu:Nat)  (Aa:List U8):Nat→Int→Int→Option (Cur)
  | 0=>λ_ _=>none
  | n+1=>Qo8 fu Aa (Qhq fu Aa n)
def Qs3 (fu:Nat) (Aa:List U8):Option (Cur) :=
  Qhq fu Aa fu (w64 (26583+(Aa.length:Int))) 0
def Qh6 (fu:Nat) (c1:Cur):Option (Int×Cur) :=
  bif (decide (c1.fi<(c1.fb.length:Int))) then Qac (ix c1.fb c1.fi) λAa=>some (IntKind.wrap .i64 (((BitVec.ofInt (IntKind.bits .i64) (w64 ((IntKind.wrap .i64 (((BitVec.ofInt (IntKind.bits .i64) (IntKind.wrap .i64 (((BitVec.ofInt (IntKind.bits .i64) (Int.fdiv (w64 ((w64 (c1.fh*6364136223846793005))+1442695040888963407)) (2 ^ (min 33 (IntKind.bits .i64)))) ^^^ BitVec.ofInt (IntKind.bits .i64) (Int.fdiv (w64 ((w64 (c1.fh*6364136223846793005))+1442695040888963407)) (2 ^ (min 45 (IntKind.bits .i64))))).toNat:Nat):Int)) &&& BitVec.ofInt (IntKind.bits .i64) 255).toNat:Nat):Int))+(w64 Aa.n))) &&& BitVec.ofInt (IntKind.bits .i64) 255).toNat:Nat):Int),(⟨c1.fb,w64 (c1.fi+1),w64 ((w64 (c1.fh*6364136223846793005))+1442695040888963407)⟩:Cur)) else some (IntKind.wrap .i64 (((BitVec.ofInt (IntKind.bits .i64) (IntKind.wrap .i64 (((BitVec.ofInt (IntKind.bits .i64) (Int.fdiv (w64 ((w64 (c1.fh*6364136223846793005))+1442695040888963407)) (2 ^ (min 33 (IntKind.bits .i64)))) ^^^ BitVec.ofInt (IntKind.bits .i64) (Int.fdiv (w64 ((w64 (c1.fh*6364136223846793005))+1442695040888963407)) (2 ^ (min 45 (IntKind.bits .i64))))).toNat:Nat):Int)) &&& BitVec.ofInt (IntKind.bits .i64) 255).toNat:Nat):Int),(⟨c1.fb,c1.fi,w64 ((w64 (c1.fh*6364136223846793005))+1442695040888963407)⟩:Cur))
def Qaz (fu:Nat) (c1:Cur) (n7:Int):Option (Int×Cur) :=
  bif (decide (n7≤0)) then some (0,c1) else bif (decide (n7≤256)) then Qac (Qh6 fu c1) λAb=>Qac (Jhb n7) λAf=>some (Int.tmod Ab.1 n7,(⟨c1.fb,Ab.2.fi,Ab.2.fh⟩:Cur)) else Qac (Qh6 fu c1) λAa=>Qac (Qh6 fu (⟨c1.fb,Aa.2.fi,Aa.2.fh⟩:Cur)) λAc=>Qac (Qh6 fu (⟨c1.fb,Ac.2.fi,Ac.2.fh⟩:Cur)) λAd=>Qac (Qh6 fu (⟨c1.fb,Ad.2.fi,Ad.2.fh⟩:Cur)) λAe=>Qac (Jhb n7) λAg=>some (Int.tmod (w64 ((w64 ((w64 ((w64 (Aa.1*16777216))+(w64 (Ac.1*65536))))+(w64 (Ad.1*256))))+Ae.1)) n7,(⟨c1.fb,Ae.2.fi,Ae.2.fh⟩:Cur))
def Qmo (fu:Nat) (c1:Cur) (n7:Int):Option (Bool×Cur) :=
  Qac (Qaz fu c1 n7) λx9=>some (x9.1==0,(⟨c1.fb,x9.2.fi,x9.2.fh⟩:Cur))
def Qcp (fu:Nat) (c1:Cur) (Ab:List Int):Option (Int×Cur) :=
  Qac (Qaz fu c1 (Ab.length:Int)) λAa=>Qac (ix Ab Aa.1) λAc=>some (Ac,(⟨c1.fb,Aa.2.fi,Aa.2.fh⟩:Cur))
def Qia (fu:Nat) (Ae:Int→Int→List Pair→Int→Option (Request×Cur)) (Ab:Int) (Aa:Int) (Ad:Int) (Ac:List Pair):Option (Request×Cur) :=
  Ae Aa Ad Ac (w64 (Ab+1))
def Qma (fu:Nat) (k9:Int→Int→List Pair→Int→Option (Request×Cur)) (c1:Cur) (Aa:Int) (Ag:Int→Int→List Pair→Int→Option (Request×Cur)) (Af:Int) (Ae:Int) (Ad:List Pair) (Ab:Int):Option (Request×Cur) :=
  bif (decide (Ab≤Aa)) then bif (Aa==Ab) then Qac (Qg4 16 Ad (([(⟨Aa,Aa⟩:Pair)]:List Pair))) λAh=>Qia fu Ag Ab Af Ae Ah else Qac (Qmo fu (⟨c1.fb,Af,Ae⟩:Cur) 2) λAc=>bif Ac.1 then Qac (Qg4 16 Ad (([(⟨Aa,Ab⟩:Pair),(⟨Ab,Aa⟩:Pair)]:List Pair))) λAi=>Qia fu Ag Ab Ac.2.fi Ac.2.fh Ai else Qia fu Ag Ab Ac.2.fi Ac.2.fh Ad else k9 Af Ae Ad (w64 (Aa+1))
def Qfw (fu:Nat) (k9:Int→Int→List Pair→Int→Option (Request×Cur)) (c1:Cur) (Aa:Int):Nat→Int→Int→List Pair→Int→Option (Request×Cur)
  | 0=>λ_ _ _ _=>none
  | n+1=>Qma fu k9 c1 Aa (Qfw fu k9 c1 Aa n)
def Qkp (fu:Nat) (Ad:Int→Int→List Item→Int→Int→Option (Request×Cur)) (Ac:Int) (Aa:Int) (Ae:Int) (Ab:List Item) (Af:Int):Option (Request×Cur) :=
  Ad Aa Ae Ab Af (w64 (Ac+1))
def Qic (fu:Nat) (Af:Int→Int→List Item→Int→Int→Option (Request×Cur)) (Ag:List Item) (Ab:Int) (Ac:Int) (Ad:Int) (Ae:Int) (Aa:Item):Option (Request×Cur) :=
  bif (decide ((w64 (Ab+Aa.f0))≤12)) then Qac (Qg4 56 Ag (([Aa]:List Item))) λAh=>Qkp fu Af Ac Ad Ae Ah (w64 (Ab+Aa.f0)) else Qkp fu Af Ac Ad Ae Ag Ab
def Qpg (fu:Nat) (Ae:Int→Int→List Item→Int→Int→Option (Request×Cur)) (c1:Cur) (Af:List Item) (Ag:Int) (Ad:Int) (Ai:Int) (Ah:Int) (Ab:Item):Option (Request×Cur) :=
  Qac (Qmo fu (⟨c1.fb,Ai,Ah⟩:Cur) 3) λAa=>bif Aa.1 then Qac (Qaz fu (⟨c1.fb,Aa.2.fi,Aa.2.fh⟩:Cur) 8) λAc=>Qic fu Ae Af Ag Ad Ac.2.fi Ac.2.fh (⟨Ab.qQ,5,5,w64 (4+Ac.1),Ab.fQ,Ab.fL,Ab.f0⟩:Item) else Qic fu Ae Af Ag Ad Aa.2.fi Aa.2.fh Ab
def Ql9 (fu:Nat)  (c1:Cur) (As:Int×Cur) (Ao:Int×Cur) (Am:Int×Cur) (Ar:Int×Cur) (Ap:Int×Cur) (Ai:Int×Cur) (Au:List Pair) (Av:List Typ) (Al:Int×Cur) (At:Int→Int→List Item→Int→Int→Option (Request×Cur)) (Ah:Int) (Aj:Int) (Ak:List Item) (Aq:Int) (Ac:Int):Option (Request×Cur) :=
  bif (decide (Ac<Al.1)) then Qac (Qaz fu (⟨c1.fb,Ah,Aj⟩:Cur) 10) λAb=>Qac (Qaz fu (⟨c1.fb,Ab.2.fi,Ab.2.fh⟩:Cur) 10) λAg=>Qac (Qaz fu (⟨c1.fb,Ag.2.fi,Ag.2.fh⟩:Cur) 10) λAa=>Qac (Qaz fu (⟨c1.fb,Aa.2.fi,Aa.2.fh⟩:Cur) 60) λAd=>Qac (Qaz fu (⟨c1.fb,Ad.2.fi,Ad.2.fh⟩:Cur) (w64 (1+Ai.1))) λAe=>Qac (Qaz fu (⟨c1.fb,Ae.2.fi,Ae.2.fh⟩:Cur) 4) λAf=>Qpg fu At c1 Ak Aq Ac Af.2.fi Af.2.fh (⟨w64 (3*Ac),w64 (1+Ab.1),w64 (1+Ag.1),w64 (1+Aa.1),w64 (1+Ad.1),Ae.1,w64 (1+Af.1)⟩:Item) else some ((⟨As.1,(⟨Ao.1,Am.1,Ar.1,Ap.1⟩:Pallet),w64 (1+Ai.1),Au,Av,7,Ak⟩:Request),(⟨c1.fb,Ah,Aj⟩:Cur))
def Qdg (fu:Nat)  (c1:Cur) (Ad:Int×Cur) (Ah:Int×Cur) (Ab:Int×Cur) (Ac:Int×Cur) (Ai:Int×Cur) (Af:Int×Cur) (Ag:List Pair) (Ae:List Typ) (Aa:Int×Cur):Nat→Int→Int→List Item→Int→Int→Option (Request×Cur)
  | 0=>λ_ _ _ _ _=>none
  | n+1=>Ql9 fu c1 Ad Ah Ab Ac Ai Af Ag Ae Aa (Qdg fu c1 Ad Ah Ab Ac Ai Af Ag Ae Aa n)
def Qlu (fu:Nat)  (c1:Cur) (At:Int×Cur) (Ao:Int×Cur) (Al:Int×Cur) (As:Int×Cur) (Ar:Int×Cur) (Aq:Int×Cur) (Av:List Pair) (Am:Int×Cur) (Au:Int→Int→List Typ→Int→Option (Request×Cur)) (Aj:Int) (Ai:Int) (Ak:List Typ) (Ah:Int):Option (Request×Cur) :=
  bif (decide (Ah<Am.1)) then Qac (Qaz fu (⟨c1.fb,Aj,Ai⟩:Cur) 9) λAg=>Qac (Qaz fu (⟨c1.fb,Ag.2.fi,Ag.2.fh⟩:Cur) 8) λAd=>Qac (Qaz fu (⟨c1.fb,Ad.2.fi,Ad.2.fh⟩:Cur) 9) λAe=>Qac (Qaz fu (⟨c1.fb,Ae.2.fi,Ae.2.fh⟩:Cur) 5) λAf=>Qac (Qaz fu (⟨c1.fb,Af.2.fi,Af.2.fh⟩:Cur) 90) λAc=>Qac (Qaz fu (⟨c1.fb,Ac.2.fi,Ac.2.fh⟩:Cur) 20) λAb=>Qac (Qg4 56 Ak (([(⟨w64 (10+Ah),w64 (4+Ag.1),w64 (3+Ad.1),w64 (3+Ae.1),Af.1,w64 (20+Ac.1),w64 (1+Ab.1)⟩:Typ)]:List Typ))) λAp=>Au Ab.2.fi Ab.2.fh Ap (w64 (Ah+1)) else Qac (Qaz fu (⟨c1.fb,Aj,Ai⟩:Cur) 6) λAa=>Qdg fu c1 At Ao Al As Ar Aq Av Ak Aa fu Aa.2.fi Aa.2.fh (([]:List Item)) 0 0
def Qhd (fu:Nat)  (c1:Cur) (Ac:Int×Cur) (Ag:Int×Cur) (Aa:Int×Cur) (Ab:Int×Cur) (Ah:Int×Cur) (Ae:Int×Cur) (Af:List Pair) (Ad:Int×Cur):Nat→Int→Int→List Typ→Int→Option (Request×Cur)
  | 0=>λ_ _ _ _=>none
  | n+1=>Qlu fu c1 Ac Ag Aa Ab Ah Ae Af Ad (Qhd fu c1 Ac Ag Aa Ab Ah Ae Af Ad n)
def Qpk (fu:Nat) (c1:Cur) (Ag:Int×Cur) (Ai:Int×Cur) (Ac:Int×Cur) (Ae:Int×Cur) (Aj:Int×Cur) (Ah:Int×Cur) (Ad:List Pair) (Af:Int) (Ab:Int) (Ak:List Typ):Option (Request×Cur) :=
  Qac (Qaz fu (⟨c1.fb,Af,Ab⟩:Cur) 5) λAa=>Qhd fu c1 Ag Ai Ac Ae Aj Ah Ad Aa fu Aa.2.fi Aa.2.fh Ak 0
def Qmq (fu:Nat)  (c1:Cur) (Al:Int×Cur) (Am:Int×Cur) (Aj:Int×Cur) (Ak:Int×Cur) (Ao:Int×Cur) (Ag:Int×Cur) (k9:Int→Int→List Pair→Int→Option (Request×Cur)) (Ae:Int) (Af:Int) (Ah:List Pair) (Ad:Int):Option (Request×Cur) :=
  bif (decide (Ad<(w64 (1+Ag.1)))) then Qfw fu k9 c1 Ad fu Ae Af Ah 0 else Qac (Qaz fu (⟨c1.fb,Ae,Af⟩:Cur) 8) λAa=>Qac (Qcp fu (⟨c1.fb,Aa.2.fi,Aa.2.fh⟩:Cur) (([60,100,140]:List Int))) λAb=>Qac (Qcp fu (⟨c1.fb,Ab.2.fi,Ab.2.fh⟩:Cur) (([9,20]:List Int))) λAc=>Qac (Qg4 56 (([]:List Typ)) (([(⟨7,12,10,11,Aa.1,Ab.1,Ac.1⟩:Typ)]:List Typ))) λAi=>Qpk fu c1 Al Am Aj Ak Ao Ag Ah Ac.2.fi Ac.2.fh Ai
def Qd2 (fu:Nat)  (c1:Cur) (Ac:Int×Cur) (Ae:Int×Cur) (Aa:Int×Cur) (Ab:Int×Cur) (Af:Int×Cur) (Ad:Int×Cur):Nat→Int→Int→List Pair→Int→Option (Request×Cur)
  | 0=>λ_ _ _ _=>none
  | n+1=>Qmq fu c1 Ac Ae Aa Ab Af Ad (Qd2 fu c1 Ac Ae Aa Ab Af Ad n)
def Qnd (fu:Nat) (c1:Cur):Option (Request×Cur) :=
  Qac (Qaz fu c1 2) λAc=>Qac (Qcp fu (⟨c1.fb,Ac.2.fi,Ac.2.fh⟩:Cur) (([20,30,37]:List Int))) λAe=>Qac (Qcp fu (⟨c1.fb,Ae.2.fi,Ae.2.fh⟩:Cur) (([20,25,40]:List Int))) λAa=>Qac (Qcp fu (⟨c1.fb,Aa.2.fi,Aa.2.fh⟩:Cur) (([15,24,50]:List Int))) λAb=>Qac (Qcp fu (⟨c1.fb,Ab.2.fi,Ab.2.fh⟩:Cur) (([150,400,5000]:List Int))) λAf=>Qac (Qaz fu (⟨c1.fb,Af.2.fi,Af.2.fh⟩:Cur) 4) λAd=>Qd2 fu c1 Ac Ae Aa Ab Af Ad fu Ad.2.fi Ad.2.fh (([]:List Pair)) 0
def Qa1 (fu:Nat) (x1:Int) (Ab:Int) (Aa:Int):Option (Bool) :=
  bif (decide (x1≥Ab)) then some (decide (x1≤Aa)) else some (false)
def Qen (fu:Nat) (x1:Int):Option (Bool) :=
  Qac (Qa1 fu x1 1 2000) λx2=>some (x2)
def Qhj (fu:Nat) (x1:Pallet):Option (Bool) :=
  Qac (Qen fu x1.fW) λx5=>bif x5 then Qac (Qen fu x1.fD) λAb=>bif Ab then Qac (Qen fu x1.fH) λAc=>bif Ac then Qac (Qa1 fu x1.fQ 1 100000) λAa=>some (Aa) else some (false) else some (false) else some (false)
def Qop (fu:Nat) (x1:Int):Option (Bool) :=
  Qac (Qa1 fu x1 0 999) λx2=>some (x2)
def Qrh (fu:Nat) (x1:Typ):Option (Bool) :=
  Qac (Qop fu x1.qQ) λx5=>bif x5 then Qac (Qen fu x1.fW) λAb=>bif Ab then Qac (Qen fu x1.fH) λAf=>bif Af then Qac (Qen fu x1.fD) λAe=>bif Ae then Qac (Qa1 fu x1.ft 0 100000) λAc=>bif Ac then Qac (Qa1 fu x1.fQ 1 100000) λAa=>bif Aa then Qac (Qa1 fu x1.fK 0 100000) λAd=>some (Ad) else some (false) else some (false) else some (false) else some (false) else some (false) else some (false)
def Qr7 (fu:Nat) (x1:Item):Option (Bool) :=
  Qac (Qop fu x1.qQ) λx5=>bif x5 then Qac (Qen fu x1.fW) λAb=>bif Ab then Qac (Qen fu x1.fH) λAf=>bif Af then Qac (Qen fu x1.fD) λAe=>bif Ae then Qac (Qa1 fu x1.fQ 1 100000) λAc=>bif Ac then Qac (Qa1 fu x1.fL 0 3) λAa=>bif Aa then Qac (Qa1 fu x1.f0 1 6) λAd=>some (Ad) else some (false) else some (false) else some (false) else some (false) else some (false) else some (false)
def Qnt (fu:Nat) (k4:Int→Option (Bool)) (Aa:Int)  : Option (Bool) :=
  k4 (w64 (Aa+1))
def Qj4 (fu:Nat)  (r1:Request) (k7:Int→Int→Option (Bool)) (Ab:Int) (Aa:Int):Option (Bool) :=
  bif (decide (Aa<(r1.fU.length:Int))) then Qac (ix r1.fU Aa) λAc=>Qac (Qr7 fu Ac) λAd=>bif (!Ad) then some (false) else Qac (ix r1.fU Aa) λAe=>k7 (w64 (Ab+Ac.f0)) (w64 (Aa+1)) else some (decide (Ab≤12))
def Qeb (fu:Nat)  (r1:Request):Nat→Int→Int→Option (Bool)
  | 0=>λ_ _=>none
  | n+1=>Qj4 fu r1 (Qeb fu r1 n)
def Qjn (fu:Nat)  (r1:Request) (k6:Int→Option (Bool)) (Aa:Int):Option (Bool) :=
  bif (decide (Aa<(r1.fR.length:Int))) then Qac (ix r1.fR Aa) λAb=>Qac (Qrh fu Ab) λAc=>bif (!Ac) then some (false) else k6 (w64 (Aa+1)) else Qeb fu r1 fu 0 0
def Qee (fu:Nat)  (r1:Request):Nat→Int→Option (Bool)
  | 0=>λ_=>none
  | n+1=>Qjn fu r1 (Qee fu r1 n)
def Qjt (fu:Nat)  (r1:Request) (k4:Int→Option (Bool)) (Aa:Int):Option (Bool) :=
  bif (decide (Aa<(r1.fT.length:Int))) then Qac (ix r1.fT Aa) λAb=>Qac (Qa1 fu Ab.fA 0 3) λAd=>bif (!Ad) then some (false) else Qac (ix r1.fT Aa) λAe=>Qac (Qa1 fu Ab.fB 0 3) λAc=>bif (!Ac) then some (false) else Qnt fu k4 Aa else Qee fu r1 fu 0
def Qed (fu:Nat)  (r1:Request):Nat→Int→Option (Bool)
  | 0=>λ_=>none
  | n+1=>Qjt fu r1 (Qed fu r1 n)
def Qnv (fu:Nat) (r1:Request)  : Option (Bool) :=
  Qed fu r1 fu 0
def Qoh (fu:Nat) (r1:Request):Option (Bool) :=
  Qac (Qa1 fu r1.qY 0 1) λAd=>bif (!Ad) then some (false) else Qac (Qhj fu r1.fJ) λAe=>bif (!Ae) then some (false) else Qac (Qa1 fu r1.fG 1 4) λAc=>bif (!Ac) then some (false) else bif (decide ((r1.fT.length:Int)>16)) then some (false) else Qac (Qa1 fu (r1.fR.length:Int) 1 5) λAb=>bif (!Ab) then some (false) else Qac (Qop fu r1.fP) λAa=>bif (!Aa) then some (false) else bif (decide ((r1.fU.length:Int)>8)) then some (false) else Qnv fu r1
def Qj3 (fu:Nat)  (r1:Request) (k1:Int→Option (Typ×Bool)) (Aa:Int):Option (Typ×Bool) :=
  bif (decide (Aa<(r1.fR.length:Int))) then Qac (ix r1.fR Aa) λAb=>bif (Ab.qQ==r1.fP) then Qac (ix r1.fR Aa) λAc=>some (Ab,true) else k1 (w64 (Aa+1)) else some ((⟨0,0,0,0,0,0,0⟩:Typ),false)
def Qgb (fu:Nat)  (r1:Request):Nat→Int→Option (Typ×Bool)
  | 0=>λ_=>none
  | n+1=>Qj3 fu r1 (Qgb fu r1 n)
def Qgi (fu:Nat) (r1:Request):Option (Typ×Bool) :=
  Qgb fu r1 fu 0
def Qlh (fu:Nat) (k3:Int→Option (Bool)) (r1:Request) (Aa:Int) (k4:Int→Option (Bool)) (Ab:Int):Option (Bool) :=
  bif (decide (Ab<Aa)) then Qac (ix r1.fR Aa) λAc=>Qac (ix r1.fR Ab) λAd=>bif (Ac.qQ==Ad.qQ) then some (false) else k4 (w64 (Ab+1)) else k3 (w64 (Aa+1))
def Qet (fu:Nat) (k3:Int→Option (Bool)) (r1:Request) (Aa:Int):Nat→Int→Option (Bool)
  | 0=>λ_=>none
  | n+1=>Qlh fu k3 r1 Aa (Qet fu k3 r1 Aa n)
def Qmf (fu:Nat) (k7:Int→Option (Bool)) (r1:Request) (Aa:Int) (k8:Int→Option (Bool)) (Ab:Int):Option (Bool) :=
  bif (decide (Ab<Aa)) then Qac (ix r1.fU Aa) λAc=>Qac (ix r1.fU Ab) λAd=>bif (Ac.qQ==Ad.qQ) then some (false) else k8 (w64 (Ab+1)) else k7 (w64 (Aa+1))
def Qer (fu:Nat) (k7:Int→Option (Bool)) (r1:Request) (Aa:Int):Nat→Int→Option (Bool)
  | 0=>λ_=>none
  | n+1=>Qmf fu k7 r1 Aa (Qer fu k7 r1 Aa n)
def Qo4 (fu:Nat) (Ab:Int→Option (Bool)) (Aa:Int)  : Option (Bool) :=
  Ab (w64 (Aa+1))
def Qlf (fu:Nat)  (r1:Request) (Ac:Int→Option (Bool)) (Aa:Int):Option (Bool) :=
  bif (decide (Aa<(r1.fT.length:Int))) then Qac (ix r1.fT Aa) λAb=>bif (decide (Ab.fA≥r1.fG)) then some (false) else Qac (ix r1.fT Aa) λAe=>bif (decide (Ab.fB≥r1.fG)) then some (false) else Qo4 fu Ac Aa else Qac (Qgi fu r1) λAd=>some (Ad.2)
def Qd6 (fu:Nat)  (r1:Request):Nat→Int→Option (Bool)
  | 0=>λ_=>none
  | n+1=>Qlf fu r1 (Qd6 fu r1 n)
def Qmb (fu:Nat)  (r1:Request) (k7:Int→Option (Bool)) (Aa:Int):Option (Bool) :=
  bif (decide (Aa<(r1.fU.length:Int))) then Qac (ix r1.fU Aa) λAb=>bif (decide (Ab.fL≥r1.fG)) then some (false) else Qer fu k7 r1 Aa fu 0 else Qd6 fu r1 fu 0
def Qbu (fu:Nat)  (r1:Request):Nat→Int→Option (Bool)
  | 0=>λ_=>none
  | n+1=>Qmb fu r1 (Qbu fu r1 n)
def Qlq (fu:Nat)  (r1:Request) (k3:Int→Option (Bool)) (Aa:Int):Option (Bool) :=
  bif (decide (Aa<(r1.fR.length:Int))) then Qet fu k3 r1 Aa fu 0 else Qbu fu r1 fu 0
def Qb0 (fu:Nat)  (r1:Request):Nat→Int→Option (Bool)
  | 0=>λ_=>none
  | n+1=>Qlq fu r1 (Qb0 fu r1 n)
def Qqa (fu:Nat) (r1:Request):Option (Bool) :=
  Qb0 fu r1 fu 0
def Qm2 (fu:Nat) (k3:Int→Option (Bool)) (Aa:Int)  : Option (Bool) :=
  k3 (w64 (Aa+1))
def Qn2 (fu:Nat)  (Ab:List Pair) (a5:Int) (b6:Int) (k3:Int→Option (Bool)) (Aa:Int):Option (Bool) :=
  bif (decide (Aa<(Ab.length:Int))) then Qac (ix Ab Aa) λAc=>bif (Ac.fA==a5) then Qac (ix Ab Aa) λAd=>bif (Ac.fB==b6) then some (true) else Qm2 fu k3 Aa else Qm2 fu k3 Aa else some (false)
def Qgs (fu:Nat)  (Aa:List Pair) (a5:Int) (b6:Int):Nat→Int→Option (Bool)
  | 0=>λ_=>none
  | n+1=>Qn2 fu Aa a5 b6 (Qgs fu Aa a5 b6 n)
def Qgk (fu:Nat) (Aa:List Pair) (a5:Int) (b6:Int):Option (Bool) :=
  Qgs fu Aa a5 b6 fu 0
def Qky (fu:Nat) (Aa:Int→Option (Bool)) (Ab:Int)  : Option (Bool) :=
  Aa (w64 (Ab+1))
def Qln (fu:Nat) (k9:Int→Option (Bool)) (Ac:List Pair) (Af:Int) (Aa:Int) (Ad:Int→Option (Bool)) (Ab:Int):Option (Bool) :=
  bif (decide (Ab<Af)) then bif (Aa==Ab) then Qac (Qgk fu Ac Aa Aa) λAj=>bif (!Aj) then some (false) else Qac (Qgk fu Ac Aa Ab) λAe=>Qac (Qgk fu Ac Ab Aa) λAh=>bif (!(Ae==Ah)) then some (false) else Qky fu Ad Ab else Qac (Qgk fu Ac Aa Ab) λAg=>Qac (Qgk fu Ac Ab Aa) λAi=>bif (!(Ag==Ai)) then some (false) else Qky fu Ad Ab else k9 (w64 (Aa+1))
def Qeu (fu:Nat) (k9:Int→Option (Bool)) (Ab:List Pair) (Aa:Int) (Ac:Int):Nat→Int→Option (Bool)
  | 0=>λ_=>none
  | n+1=>Qln fu k9 Ab Aa Ac (Qeu fu k9 Ab Aa Ac n)
def Ql3 (fu:Nat)  (Ac:List Pair) (Aa:Int) (k9:Int→Option (Bool)) (Ab:Int):Option (Bool) :=
  bif (decide (Ab<Aa)) then Qeu fu k9 Ac Aa Ab fu 0 else some (true)
def Qdy (fu:Nat)  (Ab:List Pair) (Aa:Int):Nat→Int→Option (Bool)
  | 0=>λ_=>none
  | n+1=>Ql3 fu Ab Aa (Qdy fu Ab Aa n)
def Qp6 (fu:Nat) (Ab:List Pair) (Aa:Int):Option (Bool) :=
  Qac (Qa1 fu Aa 1 4) λx6=>bif (!x6) then some (false) else Qdy fu Ab Aa fu 0
def Qj1 (fu:Nat)  (n1:Int) (k1:List Int→Int→Option ((List Int))) (Ab:List Int) (Aa:Int):Option ((List Int)) :=
  bif (decide (Aa<n1)) then Qac (Qg4 8 Ab (([Aa]:List Int))) λAc=>k1 Ac (w64 (Aa+1)) else some (Ab)
def Qf9 (fu:Nat)  (n1:Int):Nat→List Int→Int→Option ((List Int))
  | 0=>λ_ _=>none
  | n+1=>Qj1 fu n1 (Qf9 fu n1 n)
def Qku (fu:Nat) (n1:Int):Option ((List Int)) :=
  Qf9 fu n1 fu (([]:List Int)) 0
def Qib (fu:Nat) (k3:List Int→Int→Int→Option ((List Int))) (Ag:List Int) (Aj:Bool) (Ac:(List Int)) (Ae:(List Int)) (Ad:List Int) (Aa:Int) (Ab:Int)  : Option ((List Int)) :=
  bif (Ab==(Ae.length:Int)) then Qac (ix Ac Aa) λAl=>Qac (Qg4 8 Ad (([Al]:List Int))) λAv=>k3 Av (w64 (Aa+1)) Ab else bif (Aa==(Ac.length:Int)) then Qac (ix Ae Ab) λAw=>Qac (Qg4 8 Ad (([Aw]:List Int))) λAq=>k3 Aq Aa (w64 (Ab+1)) else Qac (ix Ae Ab) λAh=>Qac (ix Ag Ah) λAi=>Qac (ix Ac Aa) λAf=>Qac (ix Ag Af) λAk=>bif (decide (Ai<Ak)) then bif (!Aj) then Qac (ix Ae Ab) λAy=>Qac (Qg4 8 Ad (([Ah]:List Int))) λAp=>k3 Ap Aa (w64 (Ab+1)) else Qac (ix Ae Ab) λBk=>Qac (ix Ag Ah) λBa=>Qac (ix Ac Aa) λBc=>Qac (ix Ag Af) λBi=>bif (decide (Ai>Ak)) then bif Aj then Qac (ix Ae Ab) λBf=>Qac (Qg4 8 Ad (([Ah]:List Int))) λAm=>k3 Am Aa (w64 (Ab+1)) else Qac (ix Ac Aa) λBb=>Qac (Qg4 8 Ad (([Af]:List Int))) λAu=>k3 Au (w64 (Aa+1)) Ab else Qac (ix Ac Aa) λBl=>Qac (Qg4 8 Ad (([Af]:List Int))) λAs=>k3 As (w64 (Aa+1)) Ab else Qac (ix Ae Ab) λBg=>Qac (ix Ag Ah) λAz=>Qac (ix Ac Aa) λBh=>Qac (ix Ag Af) λBe=>bif (decide (Ai>Ak)) then bif Aj then Qac (ix Ae Ab) λBj=>Qac (Qg4 8 Ad (([Ah]:List Int))) λAo=>k3 Ao Aa (w64 (Ab+1)) else Qac (ix Ac Aa) λAx=>Qac (Qg4 8 Ad (([Af]:List Int))) λAr=>k3 Ar (w64 (Aa+1)) Ab else Qac (ix Ac Aa) λBd=>Qac (Qg4 8 Ad (([Af]:List Int))) λAt=>k3 At (w64 (Aa+1)) Ab
def Qmp (fu:Nat)  (Ag:List Int) (Af:Bool) (Ad:(List Int)) (Ab:(List Int)) (k3:List Int→Int→Int→Option ((List Int))) (Ae:List Int) (Ac:Int) (Aa:Int):Option ((List Int)) :=
  bif (decide (Ac<(Ad.length:Int))) then Qib fu k3 Ag Af Ad Ab Ae Ac Aa else bif (decide (Aa<(Ab.length:Int))) then Qib fu k3 Ag Af Ad Ab Ae Ac Aa else some (Ae)
def Qc0 (fu:Nat)  (Aa:List Int) (Ab:Bool) (Ad:(List Int)) (Ac:(List Int)):Nat→List Int→Int→Int→Option ((List Int))
  | 0=>λ_ _ _=>none
  | n+1=>Qmp fu Aa Ab Ad Ac (Qc0 fu Aa Ab Ad Ac n)
def Qsg (fu:Nat) (self:List Int→List Int→Bool→Option ((List Int))) (Ac:List Int) (Aa:List Int) (Ab:Bool):Option ((List Int)) :=
  bif (decide ((Aa.length:Int)<2)) then Qac (Qg4 8 (([]:List Int)) Aa) λAh=>some (Ah) else Qac (sls Aa 0 (w64 (Int.tdiv (Aa.length:Int) 2))) λAf=>Qac (self Ac Af Ab) λAe=>Qac (sls Aa (w64 (Int.tdiv (Aa.length:Int) 2)) (Aa.length:Int)) λAg=>Qac (self Ac Ag Ab) λAd=>Qc0 fu Ac Ab Ae Ad fu (([]:List Int)) 0 0
def Qiv (fu:Nat):Nat→List Int→List Int→Bool→Option ((List Int))
  | 0=>λ_ _ _=>none
  | n+1=>Qsg fu (Qiv fu n)
def Qpx (fu:Nat) (Aa:List Int) (Ac:List Int) (Ab:Bool):Option ((List Int)):=Qiv fu fu Aa Ac Ab
def Qph (fu:Nat) (Aa:List Int):Option ((List Int)) :=
  Qac (Qku fu (Aa.length:Int)) λx5=>Qac (Qpx fu Aa x5 false) λAb=>some (Ab)
def Qng (fu:Nat) (Aa:Int) (h2:Int) (d3:Int):Option ((List Int)) :=
  Qac (Qph fu (([Aa,h2,d3]:List Int))) λx9=>Qac (ix x9 0) λAb=>Qac (ix (([Aa,h2,d3]:List Int)) Ab) λAe=>Qac (ix x9 1) λAf=>Qac (ix (([Aa,h2,d3]:List Int)) Af) λAd=>Qac (ix x9 2) λAc=>Qac (ix (([Aa,h2,d3]:List Int)) Ac) λAg=>some (([Ae,Ad,Ag]:List Int))
def Qq5 (fu:Nat) (x1:Item) (t2:Typ):Option (Bool) :=
  Qac (Qng fu x1.fW x1.fH x1.fD) λAa=>Qac (Qng fu t2.fW t2.fH t2.fD) λAb=>Qac (ix Aa 0) λAh=>Qac (ix Ab 0) λAc=>bif (decide (Ah≤Ac)) then Qac (ix Aa 1) λAe=>Qac (ix Ab 1) λAg=>bif (decide (Ae≤Ag)) then Qac (ix Aa 2) λAf=>Qac (ix Ab 2) λAd=>bif (decide (Af≤Ad)) then some (decide (x1.fQ≤t2.fQ)) else some (false) else some (false) else some (false)
def Qsa (fu:Nat) (k4:Int→Option (Int)) (Aa:Int)  : Option (Int) :=
  k4 (w64 (Aa+1))
def Qo0 (fu:Nat)  (r1:Request) (k4:Int→Option (Int)) (Ab:Int):Option (Int) :=
  bif (decide (Ab<(r1.fR.length:Int))) then Qac (ix r1.fR Ab) λAa=>bif (decide (Aa.fW>r1.fJ.fW)) then some (6) else bif (decide (Aa.fD>r1.fJ.fD)) then some (6) else bif (decide (Aa.fH>r1.fJ.fH)) then some (6) else bif (decide ((w64 (Aa.ft+Aa.fQ))>r1.fJ.fQ)) then some (6) else Qsa fu k4 Ab else some (0)
def Qga (fu:Nat)  (r1:Request):Nat→Int→Option (Int)
  | 0=>λ_=>none
  | n+1=>Qo0 fu r1 (Qga fu r1 n)
def Qoz (fu:Nat)  (r1:Request) (Ac:Typ×Bool) (k1:Int→Option (Int)) (Aa:Int):Option (Int) :=
  bif (decide (Aa<(r1.fU.length:Int))) then Qac (ix r1.fU Aa) λAb=>Qac (Qq5 fu Ab Ac.1) λAd=>bif (!Ad) then some (5) else k1 (w64 (Aa+1)) else Qga fu r1 fu 0
def Qhr (fu:Nat)  (r1:Request) (Aa:Typ×Bool):Nat→Int→Option (Int)
  | 0=>λ_=>none
  | n+1=>Qoz fu r1 Aa (Qhr fu r1 Aa n)
def Qfs (fu:Nat) (r1:Request):Option (Int) :=
  Qac (Qoh fu r1) λAc=>bif (!Ac) then some (2) else Qac (Qqa fu r1) λAa=>bif (!Aa) then some (3) else Qac (Qp6 fu r1.fT r1.fG) λAd=>bif (!Ad) then some (4) else Qac (Qgi fu r1) λAb=>Qhr fu r1 Ab fu 0
def Qmu (fu:Nat) (k3:List Item→Int→Option (Request×Cur)) (Ab:Int) (Aa:List Item):Option (Request×Cur) :=
  k3 Aa (w64 (Ab+1))
def Qnz (fu:Nat)  (c1:Cur) (Aa:Request×Cur) (Af:Typ×Bool) (k3:List Item→Int→Option (Request×Cur)) (Ac:List Item) (Ab:Int):Option (Request×Cur) :=
  bif (decide (Ab<(Aa.1.fU.length:Int))) then Qac (ix Aa.1.fU Ab) λAd=>Qac (Qq5 fu Ad Af.1) λAe=>bif Ae then Qac (ix Aa.1.fU Ab) λAh=>Qac (Qg4 56 Ac (([Ad]:List Item))) λAg=>Qmu fu k3 Ab Ag else Qmu fu k3 Ab Ac else some ((⟨Aa.1.qY,(⟨30,25,24,400⟩:Pallet),Aa.1.fG,Aa.1.fT,Aa.1.fR,Aa.1.fP,Ac⟩:Request),(⟨c1.fb,Aa.2.fi,Aa.2.fh⟩:Cur))
def Qgu (fu:Nat)  (c1:Cur) (Ab:Request×Cur) (Aa:Typ×Bool):Nat→List Item→Int→Option (Request×Cur)
  | 0=>λ_ _=>none
  | n+1=>Qnz fu c1 Ab Aa (Qgu fu c1 Ab Aa n)
def Qr4 (fu:Nat) (c1:Cur):Option (Request×Cur) :=
  Qac (Qnd fu c1) λAa=>Qac (Qfs fu Aa.1) λAb=>bif (Ab != 0) then Qac (Qgi fu ((⟨Aa.1.qY,(⟨30,25,24,400⟩:Pallet),Aa.1.fG,Aa.1.fT,Aa.1.fR,Aa.1.fP,Aa.1.fU⟩:Request))) λAc=>Qgu fu c1 Aa Ac fu (([]:List Item)) 0 else some (Aa.1,(⟨c1.fb,Aa.2.fi,Aa.2.fh⟩:Cur))
def Qbl (fu:Nat) (c1:Cur) (Aa:Request×Cur) (Ad:Int) (Ac:Int) (Ae:Int) (Ai:Int) (Ag:List Pair) (Af:List Typ) (Ak:Int) (Aj:List Item) (Ah:Int) (Ab:Int):Option (Request×Cur) :=
  some ((⟨Ad,(⟨Ac,Aa.1.fJ.fD,Aa.1.fJ.fH,Ae⟩:Pallet),Ai,Ag,Af,Ak,Aj⟩:Request),(⟨c1.fb,Ah,Ab⟩:Cur))
def Qru (fu:Nat) (c1:Cur):Option (Request×Cur) :=
  Qac (Qnd fu c1) λAa=>Qac (Qcp fu (⟨c1.fb,Aa.2.fi,Aa.2.fh⟩:Cur) (([(-1),0,2001,100001,1000,9223372036854775807]:List Int))) λAc=>Qac (Qaz fu (⟨c1.fb,Ac.2.fi,Ac.2.fh⟩:Cur) 20) λAb=>bif (Ab.1==0) then Qac (Qcp fu (⟨c1.fb,Ab.2.fi,Ab.2.fh⟩:Cur) (([(-1),2]:List Int))) λAj=>Qbl fu c1 Aa Aj.1 Aa.1.fJ.fW Aa.1.fJ.fQ Aa.1.fG Aa.1.fT Aa.1.fR Aa.1.fP Aa.1.fU Aj.2.fi Aj.2.fh else bif (Ab.1==1) then Qbl fu c1 Aa Aa.1.qY Ac.1 Aa.1.fJ.fQ Aa.1.fG Aa.1.fT Aa.1.fR Aa.1.fP Aa.1.fU Ab.2.fi Ab.2.fh else bif (Ab.1==2) then Qbl fu c1 Aa Aa.1.qY Aa.1.fJ.fW Ac.1 Aa.1.fG Aa.1.fT Aa.1.fR Aa.1.fP Aa.1.fU Ab.2.fi Ab.2.fh else bif (Ab.1==3) then Qac (Qcp fu (⟨c1.fb,Ab.2.fi,Ab.2.fh⟩:Cur) (([0,5,1]:List Int))) λAg=>Qbl fu c1 Aa Aa.1.qY Aa.1.fJ.fW Aa.1.fJ.fQ Ag.1 Aa.1.fT Aa.1.fR Aa.1.fP Aa.1.fU Ag.2.fi Ag.2.fh else bif (Ab.1==4) then Qac (Qaz fu (⟨c1.fb,Ab.2.fi,Ab.2.fh⟩:Cur) 6) λAi=>Qac (Qaz fu (⟨c1.fb,Ai.2.fi,Ai.2.fh⟩:Cur) 4) λAh=>Qac (Qg4 16 Aa.1.fT (([(⟨w64 (Ai.1 - 1),Ah.1⟩:Pair)]:List Pair))) λAp=>Qbl fu c1 Aa Aa.1.qY Aa.1.fJ.fW Aa.1.fJ.fQ Aa.1.fG Ap Aa.1.fR Aa.1.fP Aa.1.fU Ah.2.fi Ah.2.fh else bif (Ab.1==5) then Qac (ix Aa.1.fR 0) λAl=>Qbl fu c1 Aa Aa.1.qY Aa.1.fJ.fW Aa.1.fJ.fQ Aa.1.fG Aa.1.fT (Qhe Aa.1.fR 0 ({ Al with fH:=Ac.1 })) Aa.1.fP Aa.1.fU Ab.2.fi Ab.2.fh else bif (Ab.1==6) then Qac (Qaz fu (⟨c1.fb,Ab.2.fi,Ab.2.fh⟩:Cur) (Aa.1.fR.length:Int)) λAd=>Qac (ix Aa.1.fR Ad.1) λAo=>Qbl fu c1 Aa Aa.1.qY Aa.1.fJ.fW Aa.1.fJ.fQ Aa.1.fG Aa.1.fT (Qhe Aa.1.fR Ad.1 ({ Ao with fQ:=Ac.1 })) Aa.1.fP Aa.1.fU Ad.2.fi Ad.2.fh else bif (Ab.1==7) then Qac (Qcp fu (⟨c1.fb,Ab.2.fi,Ab.2.fh⟩:Cur) (([8,(-1),1000]:List Int))) λAk=>Qbl fu c1 Aa Aa.1.qY Aa.1.fJ.fW Aa.1.fJ.fQ Aa.1.fG Aa.1.fT Aa.1.fR Ak.1 Aa.1.fU Ak.2.fi Ak.2.fh else bif (Ab.1==8) then Qac (Qaz fu (⟨c1.fb,Ab.2.fi,Ab.2.fh⟩:Cur) 5) λAf=>Qac (Qaz fu (⟨c1.fb,Af.2.fi,Af.2.fh⟩:Cur) 8) λAe=>Qac (Qg4 56 Aa.1.fU (([(⟨3,1,2,3,4,Af.1,Ae.1⟩:Item)]:List Item))) λAr=>Qbl fu c1 Aa Aa.1.qY Aa.1.fJ.fW Aa.1.fJ.fQ Aa.1.fG Aa.1.fT Aa.1.fR Aa.1.fP Ar Ae.2.fi Ae.2.fh else bif (Ab.1==9) then bif (decide ((Aa.1.fU.length:Int)>0)) then Qac (ix Aa.1.fU 0) λAs=>Qbl fu c1 Aa Aa.1.qY Aa.1.fJ.fW Aa.1.fJ.fQ Aa.1.fG Aa.1.fT Aa.1.fR Aa.1.fP (Qhe Aa.1.fU 0 ({ As with fD:=Ac.1 })) Ab.2.fi Ab.2.fh else Qbl fu c1 Aa Aa.1.qY Aa.1.fJ.fW Aa.1.fJ.fQ Aa.1.fG Aa.1.fT Aa.1.fR Aa.1.fP Aa.1.fU Ab.2.fi Ab.2.fh else bif (Ab.1==10) then bif (decide ((Aa.1.fT.length:Int)>0)) then Qac (sls Aa.1.fT 1 (Aa.1.fT.length:Int)) λAq=>Qbl fu c1 Aa Aa.1.qY Aa.1.fJ.fW Aa.1.fJ.fQ Aa.1.fG Aq Aa.1.fR Aa.1.fP Aa.1.fU Ab.2.fi Ab.2.fh else Qbl fu c1 Aa Aa.1.qY Aa.1.fJ.fW Aa.1.fJ.fQ Aa.1.fG Aa.1.fT Aa.1.fR Aa.1.fP Aa.1.fU Ab.2.fi Ab.2.fh else bif (Ab.1==11) then Qac (ix Aa.1.fR 0) λAm=>Qac (Qg4 56 Aa.1.fR (([Am]:List Typ))) λAt=>Qbl fu c1 Aa Aa.1.qY Aa.1.fJ.fW Aa.1.fJ.fQ Aa.1.fG Aa.1.fT At Aa.1.fP Aa.1.fU Ab.2.fi Ab.2.fh else bif (Ab.1==12) then Qbl fu c1 Aa Aa.1.qY Aa.1.fJ.fW Aa.1.fJ.fQ Aa.1.fG Aa.1.fT (([]:List Typ)) Aa.1.fP Aa.1.fU Ab.2.fi Ab.2.fh else Qbl fu c1 Aa Aa.1.qY Aa.1.fJ.fW Aa.1.fJ.fQ Aa.1.fG Aa.1.fT Aa.1.fR Aa.1.fP Aa.1.fU Ab.2.fi Ab.2.fh
def Qna (fu:Nat) (Ab:List U8):Option (Request) :=
  Qac (Qs3 fu Ab) λx8=>Qac (Qmo fu (⟨Ab,x8.fi,x8.fh⟩:Cur) 2) λAa=>bif Aa.1 then Qac (Qr4 fu (⟨Ab,Aa.2.fi,Aa.2.fh⟩:Cur)) λAc=>some (Ac.1) else Qac (Qru fu (⟨Ab,Aa.2.fi,Aa.2.fh⟩:Cur)) λAd=>some (Ad.1)
def Qpa (fu:Nat) (Aa:List U8):Option (Request) :=
  Qac (Qna fu Aa) λx8=>some (x8)
def Qpm (fu:Nat) (t1:Typ) (x2:Int):Option (Bool) :=
  some (t1.qQ==x2)
def Qch (fu:Nat)  (Ab:List Typ) (f5:Typ→Option Bool) (k1:Int→Option (Int)) (Aa:Int):Option (Int) :=
  bif (decide (Aa<(Ab.length:Int))) then Qac (ix Ab Aa) λAc=>Qac (f5 Ac) λAd=>bif Ad then some (Aa) else k1 (w64 (Aa+1)) else some ((-1))
def Qbb (fu:Nat)  (Aa:List Typ) (f5:Typ→Option Bool):Nat→Int→Option (Int)
  | 0=>λ_=>none
  | n+1=>Qch fu Aa f5 (Qbb fu Aa f5 n)
def Qbo (fu:Nat) (Aa:List Typ) (f5:Typ→Option Bool):Option (Int) :=
  Qbb fu Aa f5 fu 0
def Qhk (fu:Nat) (r1:Request) (Ab:Int):Option (Typ×Bool) :=
  Qac (Qbo fu r1.fR (λAd=>Qpm fu Ad Ab)) λAa=>bif (decide (Aa<0)) then some ((⟨0,0,0,0,0,0,0⟩:Typ),false) else Qac (ix r1.fR Aa) λAc=>some (Ac,true)
def Qij (fu:Nat) (r1:Request):Option (Typ×Bool) :=
  Qac (Qhk fu r1 r1.fP) λAa=>some (Aa.1,Aa.2)
def Qbk (fu:Nat) (n1:Int) (Ab:Int) (Aa:Int):Option (Bool) :=
  bif (decide (n1≥Ab)) then some (decide (n1≤Aa)) else some (false)
def Qc3 (fu:Nat) (n1:Int):Option (Bool) :=
  Qac (Qbk fu n1 1 2000) λx2=>some (x2)
def Qe9 (fu:Nat) (x1:Pallet):Option (Bool) :=
  Qac (Qc3 fu x1.fW) λx5=>bif x5 then Qac (Qc3 fu x1.fD) λAb=>bif Ab then Qac (Qc3 fu x1.fH) λAc=>bif Ac then Qac (Qbk fu x1.fQ 1 100000) λAa=>some (Aa) else some (false) else some (false) else some (false)
def Qcj (fu:Nat)  (Ab:List Pair) (f5:Pair→Option Bool) (k1:Int→Option (Int)) (Aa:Int):Option (Int) :=
  bif (decide (Aa<(Ab.length:Int))) then Qac (ix Ab Aa) λAc=>Qac (f5 Ac) λAd=>bif Ad then some (Aa) else k1 (w64 (Aa+1)) else some ((-1))
def Qba (fu:Nat)  (Aa:List Pair) (f5:Pair→Option Bool):Nat→Int→Option (Int)
  | 0=>λ_=>none
  | n+1=>Qcj fu Aa f5 (Qba fu Aa f5 n)
def Qb6 (fu:Nat) (Aa:List Pair) (f5:Pair→Option Bool):Option (Int) :=
  Qba fu Aa f5 fu 0
def Qa9 (fu:Nat) (Aa:List Pair) (f5:Pair→Option Bool):Option (Bool) :=
  Qac (Qb6 fu Aa f5) λAb=>some (decide (Ab≥0))
def Qkk (fu:Nat) (p1:Pair):Option (Bool) :=
  Qac (Qbk fu p1.fA 0 3) λx5=>bif (!x5) then some (true) else Qac (Qbk fu p1.fB 0 3) λAa=>some (!Aa)
def Qav (fu:Nat) (Aa:List Typ) (f5:Typ→Option Bool):Option (Bool) :=
  Qac (Qbo fu Aa f5) λAb=>some (decide (Ab≥0))
def Qr9 (fu:Nat) (x1:Typ):Option (Bool) :=
  Qac (Qbk fu x1.qQ 0 999) λx5=>bif x5 then Qac (Qc3 fu x1.fW) λAb=>bif Ab then Qac (Qc3 fu x1.fH) λAf=>bif Af then Qac (Qc3 fu x1.fD) λAe=>bif Ae then Qac (Qbk fu x1.ft 0 100000) λAc=>bif Ac then Qac (Qbk fu x1.fQ 1 100000) λAa=>bif Aa then Qac (Qbk fu x1.fK 0 100000) λAd=>some (Ad) else some (false) else some (false) else some (false) else some (false) else some (false) else some (false)
def Qkg (fu:Nat) (t1:Typ):Option (Bool) :=
  Qac (Qr9 fu t1) λx5=>some (!x5)
def Qsc (fu:Nat) (x1:Item):Option (Bool) :=
  Qac (Qbk fu x1.qQ 0 999) λx5=>bif x5 then Qac (Qc3 fu x1.fW) λAb=>bif Ab then Qac (Qc3 fu x1.fH) λAf=>bif Af then Qac (Qc3 fu x1.fD) λAe=>bif Ae then Qac (Qbk fu x1.fQ 1 100000) λAc=>bif Ac then Qac (Qbk fu x1.fL 0 3) λAa=>bif Aa then Qac (Qbk fu x1.f0 1 6) λAd=>some (Ad) else some (false) else some (false) else some (false) else some (false) else some (false) else some (false)
def Qj5 (fu:Nat)  (r1:Request) (k3:Int→Int→Option (Bool)) (Ab:Int) (Aa:Int):Option (Bool) :=
  bif (decide (Aa<(r1.fU.length:Int))) then Qac (ix r1.fU Aa) λAc=>Qac (Qsc fu Ac) λAd=>bif (!Ad) then some (false) else k3 (w64 (Ab+Ac.f0)) (w64 (Aa+1)) else some (decide (Ab≤12))
def Qe3 (fu:Nat)  (r1:Request):Nat→Int→Int→Option (Bool)
  | 0=>λ_ _=>none
  | n+1=>Qj5 fu r1 (Qe3 fu r1 n)
def Qn7 (fu:Nat) (r1:Request)  : Option (Bool) :=
  Qe3 fu r1 fu 0 0
def Qn0 (fu:Nat) (r1:Request)  : Option (Bool) :=
  Qac (Qa9 fu r1.fT (λAf=>Qkk fu Af)) λAa=>bif Aa then some (false) else Qac (Qbk fu (r1.fR.length:Int) 1 5) λAd=>bif (!Ad) then some (false) else Qac (Qav fu r1.fR (λAc=>Qkg fu Ac)) λAb=>bif Ab then some (false) else Qac (Qbk fu r1.fP 0 999) λAe=>bif (!Ae) then some (false) else bif (decide ((r1.fU.length:Int)>8)) then some (false) else Qn7 fu r1
def Qon (fu:Nat) (r1:Request):Option (Bool) :=
  Qac (Qbk fu r1.qY 0 1) λAb=>bif (!Ab) then some (false) else Qac (Qe9 fu r1.fJ) λAc=>bif (!Ac) then some (false) else Qac (Qbk fu r1.fG 1 4) λAa=>bif (!Aa) then some (false) else bif (decide ((r1.fT.length:Int)>16)) then some (false) else Qn0 fu r1
def Qqw (fu:Nat) (q1:Typ) (x2:Typ):Option (Bool) :=
  some (q1.qQ==x2.qQ)
def Qqo (fu:Nat) (q1:Item) (x2:Item):Option (Bool) :=
  some (q1.qQ==x2.qQ)
def Qci (fu:Nat)  (Ab:List Item) (f5:Item→Option Bool) (k1:Int→Option (Int)) (Aa:Int):Option (Int) :=
  bif (decide (Aa<(Ab.length:Int))) then Qac (ix Ab Aa) λAc=>Qac (f5 Ac) λAd=>bif Ad then some (Aa) else k1 (w64 (Aa+1)) else some ((-1))
def Qa8 (fu:Nat)  (Aa:List Item) (f5:Item→Option Bool):Nat→Int→Option (Int)
  | 0=>λ_=>none
  | n+1=>Qci fu Aa f5 (Qa8 fu Aa f5 n)
def Qcc (fu:Nat) (Aa:List Item) (f5:Item→Option Bool):Option (Int) :=
  Qa8 fu Aa f5 fu 0
def Qaw (fu:Nat) (Aa:List Item) (f5:Item→Option Bool):Option (Bool) :=
  Qac (Qcc fu Aa f5) λAb=>some (decide (Ab≥0))
def Qmv (fu:Nat) (p1:Pair) (x2:Request):Option (Bool) :=
  bif (decide (p1.fA≥x2.fG)) then some (true) else some (decide (p1.fB≥x2.fG))
def Qpt (fu:Nat) (k4:Int→Option (Bool)) (Aa:Int)  : Option (Bool) :=
  k4 (w64 (Aa+1))
def Qlk (fu:Nat)  (r1:Request) (k4:Int→Option (Bool)) (Aa:Int):Option (Bool) :=
  bif (decide (Aa<(r1.fU.length:Int))) then Qac (ix r1.fU Aa) λAb=>bif (decide (Ab.fL≥r1.fG)) then some (false) else Qac (sls r1.fU 0 Aa) λAc=>Qac (Qaw fu Ac (λAe=>Qqo fu Ae Ab)) λAd=>bif Ad then some (false) else Qpt fu k4 Aa else Qac (Qij fu r1) λAh=>bif Ah.2 then Qac (Qa9 fu r1.fT (λAf=>Qmv fu Af r1)) λAg=>some (!Ag) else some (false)
def Qd3 (fu:Nat)  (r1:Request):Nat→Int→Option (Bool)
  | 0=>λ_=>none
  | n+1=>Qlk fu r1 (Qd3 fu r1 n)
def Ql2 (fu:Nat)  (r1:Request) (k1:Int→Option (Bool)) (Aa:Int):Option (Bool) :=
  bif (decide (Aa<(r1.fR.length:Int))) then Qac (ix r1.fR Aa) λAc=>Qac (sls r1.fR 0 Aa) λAb=>Qac (Qav fu Ab (λAe=>Qqw fu Ae Ac)) λAd=>bif Ad then some (false) else k1 (w64 (Aa+1)) else Qd3 fu r1 fu 0
def Qfy (fu:Nat)  (r1:Request):Nat→Int→Option (Bool)
  | 0=>λ_=>none
  | n+1=>Ql2 fu r1 (Qfy fu r1 n)
def Qp3 (fu:Nat) (r1:Request):Option (Bool) :=
  Qfy fu r1 fu 0
def Qc6 (fu:Nat)  (Ab:List Pair) (v5:Pair) (k1:Int→Option (Int)) (Aa:Int):Option (Int) :=
  bif (decide (Aa<(Ab.length:Int))) then Qac (ix Ab Aa) λAc=>bif (decide (v5=Ac)) then some (Aa) else k1 (w64 (Aa+1)) else some ((-1))
def Qbh (fu:Nat)  (Aa:List Pair) (v5:Pair):Nat→Int→Option (Int)
  | 0=>λ_=>none
  | n+1=>Qc6 fu Aa v5 (Qbh fu Aa v5 n)
def Qdw (fu:Nat) (Aa:List Pair) (v5:Pair):Option (Int) :=
  Qbh fu Aa v5 fu 0
def Qdd (fu:Nat) (Ab:List Pair) (v5:Pair):Option (Bool) :=
  Qac (Qdw fu Ab v5) λAa=>some (decide (Aa≥0))
def Qh4 (fu:Nat) (Aa:List Pair) (a5:Int) (b6:Int):Option (Bool) :=
  Qac (Qdd fu Aa (⟨a5,b6⟩:Pair)) λx7=>some (x7)
def Qmn (fu:Nat) (k3:Int→Option (Bool)) (Ac:List Pair) (Ae:Int) (Ab:Int) (k4:Int→Option (Bool)) (Aa:Int):Option (Bool) :=
  bif (decide (Aa<Ae)) then Qac (Qh4 fu Ac Ab Aa) λAf=>Qac (Qh4 fu Ac Aa Ab) λAd=>bif (!(Af==Ad)) then some (false) else k4 (w64 (Aa+1)) else k3 (w64 (Ab+1))
def Qfu (fu:Nat) (k3:Int→Option (Bool)) (Ab:List Pair) (Aa:Int) (Ac:Int):Nat→Int→Option (Bool)
  | 0=>λ_=>none
  | n+1=>Qmn fu k3 Ab Aa Ac (Qfu fu k3 Ab Aa Ac n)
def Ql7 (fu:Nat)  (Ac:List Pair) (Ab:Int) (k3:Int→Option (Bool)) (Aa:Int):Option (Bool) :=
  bif (decide (Aa<Ab)) then Qac (Qh4 fu Ac Aa Aa) λAd=>bif (!Ad) then some (false) else Qfu fu k3 Ac Ab Aa fu 0 else some (true)
def Qft (fu:Nat)  (Ab:List Pair) (Aa:Int):Nat→Int→Option (Bool)
  | 0=>λ_=>none
  | n+1=>Ql7 fu Ab Aa (Qft fu Ab Aa n)
def Qp8 (fu:Nat) (Ab:List Pair) (Aa:Int):Option (Bool) :=
  Qac (Qbk fu Aa 1 4) λx6=>bif (!x6) then some (false) else Qft fu Ab Aa fu 0
def Qcl (fu:Nat) (x1:List Int):Option (List Int):=Q3i x1
def Qsr (fu:Nat) (x1:Item) (t2:Typ) (Af:List Int) (Ag:List Int):Option (Bool) :=
  Qac (Qcl fu Af) λAa=>Qac (Qcl fu Ag) λAb=>Qac (ix Aa 0) λAh=>Qac (ix Ab 0) λAc=>bif (decide (Ah≤Ac)) then Qac (ix Aa 1) λAj=>Qac (ix Ab 1) λAd=>bif (decide (Aj≤Ad)) then Qac (ix Aa 2) λAe=>Qac (ix Ab 2) λAi=>bif (decide (Ae≤Ai)) then some (decide (x1.fQ≤t2.fQ)) else some (false) else some (false) else some (false)
def Qsj (fu:Nat) (x1:Item) (t2:Typ):Option (Bool) :=
  Qsr fu x1 t2 (([x1.fW,x1.fH,x1.fD]:List Int)) (([t2.fW,t2.fH,t2.fD]:List Int))
def Qqi (fu:Nat) (x1:Item) (x2:Typ):Option (Bool) :=
  Qac (Qsj fu x1 x2) λx8=>some (!x8)
def Qpw (fu:Nat) (t1:Typ) (x2:Pallet):Option (Bool) :=
  bif (decide (t1.fW>x2.fW)) then some (true) else bif (decide (t1.fD>x2.fD)) then some (true) else bif (decide (t1.fH>x2.fH)) then some (true) else some (decide ((w64 (t1.ft+t1.fQ))>x2.fQ))
def Qs4 (fu:Nat) (r1:Request):Option (Int) :=
  Qac (Qij fu r1) λAh=>Qac (Qon fu r1) λAa=>bif (!Aa) then some (2) else Qac (Qp3 fu r1) λAf=>bif (!Af) then some (3) else Qac (Qp8 fu r1.fT r1.fG) λAb=>bif (!Ab) then some (4) else Qac (Qaw fu r1.fU (λAd=>Qqi fu Ad Ah.1)) λAg=>bif Ag then some (5) else Qac (Qav fu r1.fR (λAe=>Qpw fu Ae r1.fJ)) λAc=>bif Ac then some (6) else some (0)
def Qfz (fu:Nat) (r1:Request):Option (Bool) :=
  Qac (Qs4 fu r1) λAa=>some (Aa==0)
def Qdc (fu:Nat) (Ab:List Int):Option ((List Int)) :=
  Qac (Qg4 8 (([]:List Int)) Ab) λAa=>some (Aa)
def Qkc (fu:Nat) (x1:List Int):Option (List Int):=Jjj x1
def Qk0 (fu:Nat) (Ab:List Int):Option ((List Int)) :=
  Qac (Qdc fu Ab) λx5=>Qac (Qcl fu x5) λAa=>Qac (Qkc fu Aa) λAc=>some (Ac)
def Ql1 (fu:Nat)  (r1:Request) (k1:List Int→Int→Option ((List Int))) (Ab:List Int) (Aa:Int):Option ((List Int)) :=
  bif (decide (Aa<(r1.fU.length:Int))) then Qac (ix r1.fU Aa) λAe=>Qac (Qg4 8 Ab (([Ae.fL]:List Int))) λAc=>k1 Ac (w64 (Aa+1)) else Qac (Qk0 fu Ab) λAd=>some (Ad)
def Qha (fu:Nat)  (r1:Request):Nat→List Int→Int→Option ((List Int))
  | 0=>λ_ _=>none
  | n+1=>Ql1 fu r1 (Qha fu r1 n)
def Qqb (fu:Nat) (r1:Request):Option ((List Int)) :=
  Qac (Qfz fu r1) λAa=>bif (!Aa) then some (([]:List Int)) else Qha fu r1 fu (([]:List Int)) 0
def Qry (fu:Nat) (Aa:List Pair) (a5:Int) (b6:Int):Option (Bool) :=
  Qac (Qh4 fu Aa a5 b6) λx7=>bif x7 then Qac (Qh4 fu Aa b6 a5) λAb=>some (Ab) else some (false)
def Qkl (fu:Nat) (x1:Int) (x2:List Pair) (x8:Int):Option (Bool) :=
  Qac (Qry fu x2 x8 x1) λAa=>some (!Aa)
def Qes (fu:Nat)  (Ab:List Int) (f5:Int→Option Bool) (k1:Int→Option (Int)) (Aa:Int):Option (Int) :=
  bif (decide (Aa<(Ab.length:Int))) then Qac (ix Ab Aa) λAc=>Qac (f5 Ac) λAd=>bif Ad then some (Aa) else k1 (w64 (Aa+1)) else some ((-1))
def Qcg (fu:Nat)  (Aa:List Int) (f5:Int→Option Bool):Nat→Int→Option (Int)
  | 0=>λ_=>none
  | n+1=>Qes fu Aa f5 (Qcg fu Aa f5 n)
def Qdq (fu:Nat) (Aa:List Int) (f5:Int→Option Bool):Option (Int) :=
  Qcg fu Aa f5 fu 0
def Qcz (fu:Nat) (Aa:List Int) (f5:Int→Option Bool):Option (Bool) :=
  Qac (Qdq fu Aa f5) λAb=>some (decide (Ab≥0))
def Qok (fu:Nat) (l1:List Int) (x5:List Pair) (Aa:Int):Option (Bool) :=
  Qac (Qcz fu l1 (λAc=>Qkl fu Ac x5 Aa)) λAb=>some (!Ab)
def Qei (fu:Nat)  (Ab:List (List Int)) (f5:(List Int)→Option Bool) (k1:Int→Option (Int)) (Aa:Int):Option (Int) :=
  bif (decide (Aa<(Ab.length:Int))) then Qac (ix Ab Aa) λAc=>Qac (f5 Ac) λAd=>bif Ad then some (Aa) else k1 (w64 (Aa+1)) else some ((-1))
def Qb5 (fu:Nat)  (Aa:List (List Int)) (f5:(List Int)→Option Bool):Nat→Int→Option (Int)
  | 0=>λ_=>none
  | n+1=>Qei fu Aa f5 (Qb5 fu Aa f5 n)
def Qdi (fu:Nat) (Aa:List (List Int)) (f5:(List Int)→Option Bool):Option (Int) :=
  Qb5 fu Aa f5 fu 0
def Qit (fu:Nat) (k3:List (List Int)→Int→Option ((List (List Int)))) (Aa:Int) (Ab:List (List Int)):Option ((List (List Int))) :=
  k3 Ab (w64 (Aa+1))
def Qnq (fu:Nat)  (Af:List Pair) (Ae:(List Int)) (k3:List (List Int)→Int→Option ((List (List Int)))) (Aa:List (List Int)) (Ab:Int):Option ((List (List Int))) :=
  bif (decide (Ab<(Ae.length:Int))) then Qac (ix Ae Ab) λAc=>Qac (Qbk fu Ac 0 3) λAh=>bif (!Ah) then Qit fu k3 Ab Aa else Qac (Qdi fu Aa (λAj=>Qok fu Aj Af Ac)) λAd=>bif (decide (Ad<0)) then Qac (Qg4 24 Aa [([Ac]:List Int)]) λAg=>Qit fu k3 Ab Ag else Qac (ix Aa Ad) λAk=>Qac (Qg4 8 Ak (([Ac]:List Int))) λAi=>Qac (ix Aa Ad) λAl=>Qit fu k3 Ab (Qhe Aa Ad Ai) else some (Aa)
def Qfe (fu:Nat)  (Aa:List Pair) (Ab:(List Int)):Nat→List (List Int)→Int→Option ((List (List Int)))
  | 0=>λ_ _=>none
  | n+1=>Qnq fu Aa Ab (Qfe fu Aa Ab n)
def Qrr (fu:Nat) (Aa:List Pair) (Ab:List Int):Option ((List (List Int))) :=
  Qac (Qk0 fu Ab) λAc=>Qfe fu Aa Ac fu (([]:List (List Int))) 0
def Qhp (fu:Nat) (r1:Request):Option ((List (List Int))) :=
  Qac (Qfz fu r1) λAc=>bif (!Ac) then some (([]:List (List Int))) else Qac (Qqb fu r1) λAb=>Qac (Qrr fu r1.fT Ab) λAa=>some (Aa)
def Qvx (fu:Nat) (x1:Int) (y2:Int):Option (Int×Int) :=
  some (IntKind.wrap .u64 ((IntKind.wrap .u64 ((IntKind.wrap .u64 ((Int.fdiv x1 (2 ^ (min 32 (IntKind.bits .u64))))*(Int.fdiv y2 (2 ^ (min 32 (IntKind.bits .u64))))))+(Int.fdiv (IntKind.wrap .u64 ((IntKind.wrap .u64 ((Int.fdiv x1 (2 ^ (min 32 (IntKind.bits .u64))))*(IntKind.wrap .u64 (((BitVec.ofInt (IntKind.bits .u64) y2 &&& BitVec.ofInt (IntKind.bits .u64) 4294967295).toNat:Nat):Int))))+(Int.fdiv (IntKind.wrap .u64 ((IntKind.wrap .u64 (((BitVec.ofInt (IntKind.bits .u64) x1 &&& BitVec.ofInt (IntKind.bits .u64) 4294967295).toNat:Nat):Int))*(IntKind.wrap .u64 (((BitVec.ofInt (IntKind.bits .u64) y2 &&& BitVec.ofInt (IntKind.bits .u64) 4294967295).toNat:Nat):Int)))) (2 ^ (min 32 (IntKind.bits .u64)))))) (2 ^ (min 32 (IntKind.bits .u64))))))+(Int.fdiv (IntKind.wrap .u64 ((IntKind.wrap .u64 (((BitVec.ofInt (IntKind.bits .u64) (IntKind.wrap .u64 ((IntKind.wrap .u64 ((Int.fdiv x1 (2 ^ (min 32 (IntKind.bits .u64))))*(IntKind.wrap .u64 (((BitVec.ofInt (IntKind.bits .u64) y2 &&& BitVec.ofInt (IntKind.bits .u64) 4294967295).toNat:Nat):Int))))+(Int.fdiv (IntKind.wrap .u64 ((IntKind.wrap .u64 (((BitVec.ofInt (IntKind.bits .u64) x1 &&& BitVec.ofInt (IntKind.bits .u64) 4294967295).toNat:Nat):Int))*(IntKind.wrap .u64 (((BitVec.ofInt (IntKind.bits .u64) y2 &&& BitVec.ofInt (IntKind.bits .u64) 4294967295).toNat:Nat):Int)))) (2 ^ (min 32 (IntKind.bits .u64)))))) &&& BitVec.ofInt (IntKind.bits .u64) 4294967295).toNat:Nat):Int))+(IntKind.wrap .u64 ((IntKind.wrap .u64 (((BitVec.ofInt (IntKind.bits .u64) x1 &&& BitVec.ofInt (IntKind.bits .u64) 4294967295).toNat:Nat):Int))*(Int.fdiv y2 (2 ^ (min 32 (IntKind.bits .u64)))))))) (2 ^ (min 32 (IntKind.bits .u64))))),IntKind.wrap .u64 (x1*y2))
def Qv2 (fu:Nat) (x1:Int) (y2:Int):Option (Int×Int) :=
  Qac (Qvx fu x1 y2) λx3=>some (x3.1,x3.2)
def Qnk (fu:Nat)   (k3:List Int→Int→Option ((List Int))) (Aa:List Int) (Ab:Int):Option ((List Int)) :=
  bif (decide (Ab<(Aa.length:Int))) then Qac (sls Aa Ab (Aa.length:Int)) λAd=>Qac (sls Aa 0 Ab) λAc=>k3 (cpd Aa Ab Ac) (w64 (Ab+(cpn Aa Ab Ac))) else some (Aa)
def Qgx (fu:Nat)   : Nat→List Int→Int→Option ((List Int))
  | 0=>λ_ _=>none
  | n+1=>Qnk fu  (Qgx fu  n)
def Qby (fu:Nat) (x1:List Int) (x8:Int×Int)  : Option ((List Int)) :=
  Qac (mk 8 (0:Int) (w64 x8.2)) λAa=>Qgx fu fu (cpd Aa 0 x1) (cpn Aa 0 x1)
def Qgw (fu:Nat) (x1:List Int) (Aa:Int)  : Option ((List Int)) :=
  Qac (Qv2 fu (IntKind.wrap .u64 (x1.length:Int)) (IntKind.wrap .u64 Aa)) λx8=>bif (decide (x8.1>0)) then none else bif (decide (x8.2>9223372036854775807)) then none else Qby fu x1 x8
def Qgg (fu:Nat) (x1:List Int) (Aa:Int):Option ((List Int)) :=
  bif (decide (Aa<0)) then none else Qgw fu x1 Aa
def Qpo (fu:Nat)  (r1:Request) (k1:List Int→Int→Option ((List Int))) (Ab:List Int) (Aa:Int):Option ((List Int)) :=
  bif (decide (Aa<(r1.fU.length:Int))) then Qac (ix r1.fU Aa) λAc=>Qac (Qgg fu (([Aa]:List Int)) Ac.f0) λAd=>Qac (Qg4 8 Ab Ad) λAe=>k1 Ae (w64 (Aa+1)) else some (Ab)
def Qie (fu:Nat)  (r1:Request):Nat→List Int→Int→Option ((List Int))
  | 0=>λ_ _=>none
  | n+1=>Qpo fu r1 (Qie fu r1 n)
def Qi1 (fu:Nat) (r1:Request):Option ((List Int)) :=
  Qac (Qfz fu r1) λAa=>bif (!Aa) then some (([]:List Int)) else Qie fu r1 fu (([]:List Int)) 0
def Qf6 (fu:Nat)  (Ab:List Int) (v5:Int) (k1:Int→Option (Int)) (Aa:Int):Option (Int) :=
  bif (decide (Aa<(Ab.length:Int))) then Qac (ix Ab Aa) λAc=>bif (v5==Ac) then some (Aa) else k1 (w64 (Aa+1)) else some ((-1))
def Qc7 (fu:Nat)  (Aa:List Int) (v5:Int):Nat→Int→Option (Int)
  | 0=>λ_=>none
  | n+1=>Qf6 fu Aa v5 (Qc7 fu Aa v5 n)
def Qil (fu:Nat) (Aa:List Int) (v5:Int):Option (Int) :=
  Qc7 fu Aa v5 fu 0
def Qc8 (fu:Nat) (Aa:List Int) (v5:Int):Option (Bool) :=
  Qac (Qil fu Aa v5) λx6=>some (decide (x6≥0))
def Qka (fu:Nat) (k3:List Int→Int→Option ((List Int))) (Ab:Int) (Aa:List Int):Option ((List Int)) :=
  k3 Aa (w64 (Ab+1))
def Qk8 (fu:Nat)  (r1:Request) (Ai:Int) (Ae:(List (List Int))) (Ac:(List Int)) (k3:List Int→Int→Option ((List Int))) (Ab:List Int) (Aa:Int):Option ((List Int)) :=
  bif (decide (Aa<(Ac.length:Int))) then Qac (ix Ac Aa) λAh=>Qac (ix Ae Ai) λAg=>Qac (ix r1.fU Ah) λAf=>Qac (Qc8 fu Ag Af.fL) λAd=>bif Ad then Qac (Qg4 8 Ab (([Aa]:List Int))) λAj=>Qka fu k3 Aa Aj else Qka fu k3 Aa Ab else some (Ab)
def Qf4 (fu:Nat)  (r1:Request) (Ab:Int) (Ac:(List (List Int))) (Aa:(List Int)):Nat→List Int→Int→Option ((List Int))
  | 0=>λ_ _=>none
  | n+1=>Qk8 fu r1 Ab Ac Aa (Qf4 fu r1 Ab Ac Aa n)
def Qp0 (fu:Nat) (r1:Request) (Aa:Int):Option ((List Int)) :=
  Qac (Qhp fu r1) λAb=>Qac (Qbk fu Aa 0 (w64 ((Ab.length:Int) - 1))) λAd=>bif (!Ad) then some (([]:List Int)) else Qac (Qi1 fu r1) λAc=>Qf4 fu r1 Aa Ab Ac fu (([]:List Int)) 0
def Qqq (fu:Nat) (u1:Int) (x2:Int):Option (Bool) :=
  Qac (Qbk fu u1 0 (w64 (x2 - 1))) λx5=>some (!x5)
def Qdo (fu:Nat) (k3:List Int→Int→Int→Option ((List Int))) (Aa:Int) (Ab:List Int) (Ac:Int):Option ((List Int)) :=
  k3 Ab Ac (w64 (Aa+1))
def Qeh (fu:Nat)  (f5:Int→Option Bool) (k3:List Int→Int→Int→Option ((List Int))) (Aa:List Int) (Ab:Int) (Ac:Int):Option ((List Int)) :=
  bif (decide (Ac<(Aa.length:Int))) then Qac (ix Aa Ac) λAd=>Qac (f5 Ad) λAf=>bif (!Af) then Qac (ix Aa Ab) λAh=>Qdo fu k3 Ac (Qhe Aa Ab Ad) (w64 (Ab+1)) else Qdo fu k3 Ac Aa Ab else Qac (sls Aa Ab (Aa.length:Int)) λAg=>Qac (sls (Q5z Aa Ab) 0 Ab) λAe=>some (Ae)
def Qbp (fu:Nat)  (f5:Int→Option Bool):Nat→List Int→Int→Int→Option ((List Int))
  | 0=>λ_ _ _=>none
  | n+1=>Qeh fu f5 (Qbp fu f5 n)
def Qdh (fu:Nat) (Aa:List Int) (f5:Int→Option Bool):Option ((List Int)) :=
  Qac (Qdq fu Aa f5) λAb=>bif (Ab==((-1))) then some (Aa) else Qbp fu f5 fu Aa Ab (w64 (Ab+1))
def Qji (fu:Nat) (r1:Request) (Ab:List Int):Option ((List Int)) :=
  Qac (Qi1 fu r1) λAd=>Qac (Qdc fu Ab) λAa=>Qac (Qdh fu Aa (λAe=>Qqq fu Ae (Ad.length:Int))) λAc=>some (Ac)
def Qko (fu:Nat) (k3:List Item→Int→Option ((List Item))) (Aa:Int) (Ab:List Item):Option ((List Item)) :=
  k3 Ab (w64 (Aa+1))
def Qlg (fu:Nat)  (r1:Request) (Ae:List Int) (Ad:(List Int)) (k3:List Item→Int→Option ((List Item))) (Ab:List Item) (Aa:Int):Option ((List Item)) :=
  bif (decide (Aa<(Ae.length:Int))) then Qac (ix Ae Aa) λAc=>Qac (Qbk fu Ac 0 (w64 ((Ad.length:Int) - 1))) λAf=>bif Af then Qac (ix Ad Ac) λAi=>Qac (ix r1.fU Ai) λAg=>Qac (Qg4 56 Ab (([Ag]:List Item))) λAh=>Qko fu k3 Aa Ah else Qko fu k3 Aa Ab else some (Ab)
def Qf3 (fu:Nat)  (r1:Request) (Ab:List Int) (Aa:(List Int)):Nat→List Item→Int→Option ((List Item))
  | 0=>λ_ _=>none
  | n+1=>Qlg fu r1 Ab Aa (Qf3 fu r1 Ab Aa n)
def Qh8 (fu:Nat) (r1:Request) (Ab:List Int):Option ((List Item)) :=
  Qac (Qi1 fu r1) λAa=>Qf3 fu r1 Ab Aa fu (([]:List Item)) 0
def Qqu (fu:Nat) (Aa:Int) (h2:Int) (d3:Int)  : Option (Int) :=
  some (w64 ((w64 (Aa*h2))*d3))
def Qpr (fu:Nat) (Aa:Int) (h2:Int) (d3:Int):Option (Int) :=
  Qac (Qbk fu Aa 0 2000) λAc=>bif (!Ac) then some (0) else Qac (Qbk fu h2 0 2000) λAb=>bif (!Ab) then some (0) else Qac (Qbk fu d3 0 2000) λAd=>bif (!Ad) then some (0) else Qqu fu Aa h2 d3
def Qju (fu:Nat)  (Ad:(List Item)) (k1:Int→Int→Option (Int)) (Ac:Int) (Ab:Int):Option (Int) :=
  bif (decide (Ab<(Ad.length:Int))) then Qac (ix Ad Ab) λAa=>Qac (Qpr fu Aa.fW Aa.fH Aa.fD) λAe=>k1 (w64 (Ac+Ae)) (w64 (Ab+1)) else some (Ac)
def Qgj (fu:Nat)  (Aa:(List Item)):Nat→Int→Int→Option (Int)
  | 0=>λ_ _=>none
  | n+1=>Qju fu Aa (Qgj fu Aa n)
def Qj8 (fu:Nat) (r1:Request) (Ab:List Int):Option (Int) :=
  Qac (Qh8 fu r1 Ab) λAa=>Qgj fu Aa fu 0 0
def Qn3 (fu:Nat)  (Ac:(List Item)) (k1:Int→Int→Option (Int)) (Ab:Int) (Aa:Int):Option (Int) :=
  bif (decide (Aa<(Ac.length:Int))) then Qac (ix Ac Aa) λAd=>k1 (w64 (Ab+Ad.fQ)) (w64 (Aa+1)) else some (Ab)
def Qhy (fu:Nat)  (Aa:(List Item)):Nat→Int→Int→Option (Int)
  | 0=>λ_ _=>none
  | n+1=>Qn3 fu Aa (Qhy fu Aa n)
def Qo6 (fu:Nat) (r1:Request) (Ab:List Int):Option (Int) :=
  Qac (Qh8 fu r1 Ab) λAa=>Qhy fu Aa fu 0 0
def Qo9 (fu:Nat) (r1:Request) (Aa:List Int) (t9:Typ):Option (Bool) :=
  Qac (Qj8 fu r1 Aa) λAc=>Qac (Qpr fu t9.fW t9.fH t9.fD) λAb=>bif (decide (Ac≤Ab)) then Qac (Qo6 fu r1 Aa) λAd=>some (decide (Ad≤t9.fQ)) else some (false)
def Qsk (fu:Nat) (r1:Request) (Af:List Int) (u9:Int):Option (Bool) :=
  Qac (Qij fu r1) λAe=>Qac (Qfz fu r1) λAc=>bif Ac then Qac (Qdc fu Af) λAa=>Qac (Qg4 8 Aa (([u9]:List Int))) λAb=>Qac (Qo9 fu r1 Ab Ae.1) λAd=>some (Ad) else some (false)
def Qid (fu:Nat) (k3:List (List Int)→Int→Option ((List (List Int)))) (Ab:Int) (Aa:List (List Int)):Option ((List (List Int))) :=
  k3 Aa (w64 (Ab+1))
def Qmh (fu:Nat)  (r1:Request) (Ae:(List Int)) (k3:List (List Int)→Int→Option ((List (List Int)))) (Aa:List (List Int)) (Ab:Int):Option ((List (List Int))) :=
  bif (decide (Ab<(Ae.length:Int))) then Qac (ix Ae Ab) λAc=>bif (decide ((w64 ((Aa.length:Int) - 1))≥0)) then Qac (ix Aa (w64 ((Aa.length:Int) - 1))) λAd=>Qac (Qsk fu r1 Ad Ac) λAh=>bif Ah then Qac (ix Aa (w64 ((Aa.length:Int) - 1))) λAk=>Qac (Qg4 8 Ad (([Ac]:List Int))) λAf=>Qac (ix Aa (w64 ((Aa.length:Int) - 1))) λAj=>Qid fu k3 Ab (Qhe Aa (w64 ((Aa.length:Int) - 1)) Af) else Qac (Qg4 24 Aa [([Ac]:List Int)]) λAi=>Qid fu k3 Ab Ai else Qac (Qg4 24 Aa [([Ac]:List Int)]) λAg=>Qid fu k3 Ab Ag else some (Aa)
def Qew (fu:Nat)  (r1:Request) (Aa:(List Int)):Nat→List (List Int)→Int→Option ((List (List Int)))
  | 0=>λ_ _=>none
  | n+1=>Qmh fu r1 Aa (Qew fu r1 Aa n)
def Qqk (fu:Nat) (r1:Request) (Aa:List Int):Option ((List (List Int))) :=
  Qac (Qji fu r1 Aa) λAb=>Qew fu r1 Ab fu (([]:List (List Int))) 0
def Qnj (fu:Nat)  (n1:Int) (k1:List Int→Int→Option ((List Int))) (Ab:List Int) (Aa:Int):Option ((List Int)) :=
  bif (decide (Aa<n1)) then Qac (Qg4 8 Ab (([Aa]:List Int))) λAc=>k1 Ac (w64 (Aa+1)) else some (Ab)
def Qhx (fu:Nat)  (n1:Int):Nat→List Int→Int→Option ((List Int))
  | 0=>λ_ _=>none
  | n+1=>Qnj fu n1 (Qhx fu n1 n)
def Qld (fu:Nat) (n1:Int):Option ((List Int)) :=
  Qhx fu n1 fu (([]:List Int)) 0
def Qp5 (fu:Nat) (a1:Int) (b2:Int):Option (Int) :=
  bif (decide (a1<b2)) then some ((-1)) else bif (decide (a1>b2)) then some (1) else some (0)
def Qfo (fu:Nat) (i1:Int) (j2:Int) (x3:List Int):Option (Int) :=
  Qac (ix x3 j2) λAa=>Qac (ix x3 i1) λAc=>Qac (Qp5 fu Aa Ac) λAb=>some (Ab)
def Qdj (fu:Nat) (Ae:List Int→Int→Option ((List Int))) (Ab:List Int) (Aa:Int)  : Option ((List Int)) :=
  Qac (ix Ab (w64 (Aa - 1))) λAc=>Qac (ix Ab Aa) λAd=>Qac (ix Ab Aa) λAg=>Qac (ix (Qhe Ab Aa Ac) (w64 (Aa - 1))) λAf=>Ae (Qhe (Qhe Ab Aa Ac) (w64 (Aa - 1)) Ad) (w64 (Aa - 1))
def Qdb (fu:Nat) (k9:List Int→Int→Option ((List Int))) (a5:Int) (f7:Int→Int→Option Int) (Ac:Int) (Af:List Int→Int→Option ((List Int))) (Aa:List Int) (Ab:Int):Option ((List Int)) :=
  bif (decide (Ab>a5)) then Qac (ix Aa Ab) λAe=>Qac (ix Aa (w64 (Ab - 1))) λAg=>Qac (f7 Ae Ag) λAd=>bif (decide (Ad<0)) then Qdj fu Af Aa Ab else k9 Aa (w64 (Ac+1)) else k9 Aa (w64 (Ac+1))
def Qbc (fu:Nat) (k9:List Int→Int→Option ((List Int))) (a5:Int) (f7:Int→Int→Option Int) (Aa:Int):Nat→List Int→Int→Option ((List Int))
  | 0=>λ_ _=>none
  | n+1=>Qdb fu k9 a5 f7 Aa (Qbc fu k9 a5 f7 Aa n)
def Qca (fu:Nat)  (a5:Int) (b6:Int) (f7:Int→Int→Option Int) (k9:List Int→Int→Option ((List Int))) (Ab:List Int) (Aa:Int):Option ((List Int)) :=
  bif (decide (Aa<b6)) then Qbc fu k9 a5 f7 Aa fu Ab Aa else some (Ab)
def Qao (fu:Nat)  (a5:Int) (b6:Int) (f7:Int→Int→Option Int):Nat→List Int→Int→Option ((List Int))
  | 0=>λ_ _=>none
  | n+1=>Qca fu a5 b6 f7 (Qao fu a5 b6 f7 n)
def Qb7 (fu:Nat) (Aa:List Int) (a5:Int) (b6:Int) (f7:Int→Int→Option Int):Option ((List Int)) :=
  Qao fu a5 b6 f7 fu Aa (w64 (a5+1))
def Qh5 (fu:Nat) (x0:List Int) (x1:Int) (x2:Int) (x3:Int) (x4:Int→Int→Option Int):Option ((List Int)):=none
def Qfc (fu:Nat) (k6:List Int→Int→Option ((List Int))) (Aa:Int) (Ab:List Int):Option ((List Int)) :=
  k6 Ab (w64 (Aa*2))
def Qkt (fu:Nat) (k6:List Int→Int→Option ((List Int))) (n5:Int) (f6:Int→Int→Option Int) (Aa:Int) (k7:List Int→Int→Int→Option ((List Int))) (Ad:List Int) (Ab:Int) (Ac:Int):Option ((List Int)) :=
  bif (decide (Ac≤n5)) then Qac (Qh5 fu Ad Ab (w64 (Ab+Aa)) Ac f6) λAe=>k7 Ae Ac (w64 (Ac+(w64 (2*Aa)))) else bif (decide ((w64 (Ab+Aa))<n5)) then Qac (Qh5 fu Ad Ab (w64 (Ab+Aa)) n5 f6) λAf=>Qfc fu k6 Aa Af else Qfc fu k6 Aa Ad
def Qfd (fu:Nat) (k6:List Int→Int→Option ((List Int))) (n5:Int) (f6:Int→Int→Option Int) (Aa:Int):Nat→List Int→Int→Int→Option ((List Int))
  | 0=>λ_ _ _=>none
  | n+1=>Qkt fu k6 n5 f6 Aa (Qfd fu k6 n5 f6 Aa n)
def Qhb (fu:Nat)  (n5:Int) (f6:Int→Int→Option Int) (k6:List Int→Int→Option ((List Int))) (Ab:List Int) (Aa:Int):Option ((List Int)) :=
  bif (decide (Aa<n5)) then Qfd fu k6 n5 f6 Aa fu Ab 0 (w64 (2*Aa)) else some (Ab)
def Qcf (fu:Nat)  (n5:Int) (f6:Int→Int→Option Int):Nat→List Int→Int→Option ((List Int))
  | 0=>λ_ _=>none
  | n+1=>Qhb fu n5 f6 (Qcf fu n5 f6 n)
def Qg8 (fu:Nat)  (n5:Int) (f6:Int→Int→Option Int) (k1:List Int→Int→Int→Option ((List Int))) (Ac:List Int) (Ab:Int) (Aa:Int):Option ((List Int)) :=
  bif (decide (Aa≤n5)) then Qac (Qb7 fu Ac Ab Aa f6) λAe=>k1 Ae Aa (w64 (Aa+20)) else Qac (Qb7 fu Ac Ab n5 f6) λAd=>Qcf fu n5 f6 fu Ad 20
def Qdt (fu:Nat)  (n5:Int) (f6:Int→Int→Option Int):Nat→List Int→Int→Int→Option ((List Int))
  | 0=>λ_ _ _=>none
  | n+1=>Qg8 fu n5 f6 (Qdt fu n5 f6 n)
def Qgy (fu:Nat) (Aa:List Int) (n5:Int) (f6:Int→Int→Option Int):Option ((List Int)) :=
  Qdt fu n5 f6 fu Aa 0 20
def Qev (fu:Nat) (x1:List Int) (f5:Int→Int→Option Int):Option ((List Int)) :=
  Qac (Qgy fu x1 (x1.length:Int) f5) λAa=>some (Aa)
def Qho (fu:Nat) (Aa:List Int):Option ((List Int)) :=
  Qac (Qld fu (Aa.length:Int)) λx8=>Qac (Qev fu x8 (λAc Ad=>Qfo fu Ac Ad Aa)) λAb=>some (Ab)
def Qkw (fu:Nat) (l1:List Int) (x5:Request) (Ab:Int):Option (Bool) :=
  Qac (Qsk fu x5 l1 Ab) λAa=>some (Aa)
def Qjb (fu:Nat) (k4:List (List Int)→Int→Option ((List (List Int)))) (Aa:Int) (Ab:List (List Int)):Option ((List (List Int))) :=
  k4 Ab (w64 (Aa+1))
def Qjs (fu:Nat)  (r1:Request) (Aj:(List Int)) (Ae:(List Int)) (k4:List (List Int)→Int→Option ((List (List Int)))) (Aa:List (List Int)) (Ab:Int):Option ((List (List Int))) :=
  bif (decide (Ab<(Ae.length:Int))) then Qac (ix Ae Ab) λAf=>Qac (ix Aj Af) λAd=>Qac (Qdi fu Aa (λAi=>Qkw fu Ai r1 Ad)) λAc=>bif (decide (Ac<0)) then Qac (Qg4 24 Aa [([Ad]:List Int)]) λAg=>Qjb fu k4 Ab Ag else Qac (ix Aa Ac) λAh=>Qac (Qg4 8 Ah (([Ad]:List Int))) λAk=>Qac (ix Aa Ac) λAl=>Qjb fu k4 Ab (Qhe Aa Ac Ak) else some (Aa)
def Qc4 (fu:Nat)  (r1:Request) (Aa:(List Int)) (Ab:(List Int)):Nat→List (List Int)→Int→Option ((List (List Int)))
  | 0=>λ_ _=>none
  | n+1=>Qjs fu r1 Aa Ab (Qc4 fu r1 Aa Ab n)
def Qjx (fu:Nat)  (r1:Request) (Ab:(List Int)) (k1:List Int→Int→Option ((List (List Int)))) (Ac:List Int) (Aa:Int):Option ((List (List Int))) :=
  bif (decide (Aa<(Ab.length:Int))) then Qac (ix Ab Aa) λAd=>Qac (Qj8 fu r1 (([Ad]:List Int))) λAe=>Qac (Qg4 8 Ac (([Ae]:List Int))) λAg=>k1 Ag (w64 (Aa+1)) else Qac (Qho fu Ac) λAf=>Qc4 fu r1 Ab Af fu (([]:List (List Int))) 0
def Qgh (fu:Nat)  (r1:Request) (Aa:(List Int)):Nat→List Int→Int→Option ((List (List Int)))
  | 0=>λ_ _=>none
  | n+1=>Qjx fu r1 Aa (Qgh fu r1 Aa n)
def Qoj (fu:Nat) (r1:Request) (Ab:List Int):Option ((List (List Int))) :=
  Qac (Qji fu r1 Ab) λAa=>Qgh fu r1 Aa fu (([]:List Int)) 0
def Qp7 (fu:Nat) (r1:Request) (Aa:List Int):Option ((List (List Int))) :=
  bif (r1.qY==1) then Qac (Qqk fu r1 Aa) λAc=>some (Ac) else Qac (Qoj fu r1 Aa) λAb=>some (Ab)
def Qsu (fu:Nat) (x1:Item) (x2:Typ):Option (Bool) :=
  Qac (Qsj fu x1 x2) λx8=>some (!x8)
def Qrp (fu:Nat) (r1:Request) (Aa:List Int) (t9:Typ)  : Option (Bool) :=
  Qac (Qh8 fu r1 Aa) λAb=>Qac (Qaw fu Ab (λAe=>Qsu fu Ae t9)) λAc=>bif (!Ac) then Qac (Qo9 fu r1 Aa t9) λAd=>some (Ad) else some (false)
def Qra (fu:Nat) (r1:Request) (Aa:List Int) (t9:Typ):Option (Bool) :=
  Qac (Qfz fu r1) λAc=>bif (!Ac) then some (false) else Qac (Qji fu r1 Aa) λAb=>bif ((Ab.length:Int) != (Aa.length:Int)) then some (false) else Qrp fu r1 Aa t9
def Qea (fu:Nat) (k3:Typ→Bool→Int→Option (Typ×Bool)) (Aa:Int) (Ab:Typ) (Ac:Bool):Option (Typ×Bool) :=
  k3 Ab Ac (w64 (Aa+1))
def Qjw (fu:Nat)  (r1:Request) (Af:List Int) (k3:Typ→Bool→Int→Option (Typ×Bool)) (Ac:Typ) (Ad:Bool) (Aa:Int):Option (Typ×Bool) :=
  bif (decide (Aa<(r1.fR.length:Int))) then Qac (ix r1.fR Aa) λAb=>Qac (Qra fu r1 Af Ab) λAe=>bif (!Ae) then Qea fu k3 Aa Ac Ad else bif (!Ad) then Qea fu k3 Aa Ab true else bif (decide (Ab.fK<Ac.fK)) then Qea fu k3 Aa Ab true else bif (Ab.fK==Ac.fK) then bif (decide (Ab.qQ<Ac.qQ)) then Qea fu k3 Aa Ab true else Qea fu k3 Aa Ac Ad else Qea fu k3 Aa Ac Ad else some (Ac,Ad)
def Qe5 (fu:Nat)  (r1:Request) (Aa:List Int):Nat→Typ→Bool→Int→Option (Typ×Bool)
  | 0=>λ_ _ _=>none
  | n+1=>Qjw fu r1 Aa (Qe5 fu r1 Aa n)
def Qki (fu:Nat) (r1:Request) (Aa:List Int):Option (Typ×Bool) :=
  Qe5 fu r1 Aa fu (⟨0,0,0,0,0,0,0⟩:Typ) false 0
def Qi3 (fu:Nat) (k3:List Carton→Int→Option ((List Carton))) (r1:Request) (Ac:Int) (Ae:(List (List Int))) (k4:List Carton→Int→Option ((List Carton))) (Ab:List Carton) (Aa:Int):Option ((List Carton)) :=
  bif (decide (Aa<(Ae.length:Int))) then Qac (ix Ae Aa) λAd=>Qac (Qki fu r1 Ad) λAg=>Qac (Qcl fu Ad) λAh=>Qac (Qg4 40 Ab [(⟨Ag.1.qQ,Ac,Ah⟩:Carton)]) λAf=>k4 Af (w64 (Aa+1)) else k3 Ab (w64 (Ac+1))
def Qfj (fu:Nat) (k3:List Carton→Int→Option ((List Carton))) (r1:Request) (Aa:Int) (Ab:(List (List Int))):Nat→List Carton→Int→Option ((List Carton))
  | 0=>λ_ _=>none
  | n+1=>Qi3 fu k3 r1 Aa Ab (Qfj fu k3 r1 Aa Ab n)
def Qi2 (fu:Nat)  (r1:Request) (Ad:(List (List Int))) (k3:List Carton→Int→Option ((List Carton))) (Ab:List Carton) (Aa:Int):Option ((List Carton)) :=
  bif (decide (Aa<(Ad.length:Int))) then Qac (Qp0 fu r1 Aa) λAc=>Qac (Qp7 fu r1 Ac) λAe=>Qfj fu k3 r1 Aa Ae fu Ab 0 else some (Ab)
def Qc9 (fu:Nat)  (r1:Request) (Aa:(List (List Int))):Nat→List Carton→Int→Option ((List Carton))
  | 0=>λ_ _=>none
  | n+1=>Qi2 fu r1 Aa (Qc9 fu r1 Aa n)
def Qms (fu:Nat) (r1:Request):Option ((List Carton)) :=
  Qac (Qhp fu r1) λAa=>Qc9 fu r1 Aa fu (([]:List Carton)) 0
def Qrx (fu:Nat) (r1:Request) (x5:Carton) (Aa:Typ×Bool)  : Option (Int) :=
  Qac (Qo6 fu r1 x5.fO) λAb=>some (w64 (Aa.1.ft+Ab))
def Qrc (fu:Nat) (r1:Request) (x5:Carton):Option (Int) :=
  Qac (Qhk fu r1 x5.qJ) λAa=>bif (!Aa.2) then some (0) else Qac (Qfz fu r1) λAb=>bif (!Ab) then some (0) else Qrx fu r1 x5 Aa
def Qrs (fu:Nat) (r1:Request) (x5:Carton) (Aa:Typ×Bool)  : Option (Box) :=
  Qac (Qrc fu r1 x5) λAb=>some (⟨Aa.1.fW,Aa.1.fD,Aa.1.fH,Ab⟩:Box)
def Qq6 (fu:Nat) (r1:Request) (x5:Carton):Option (Box) :=
  Qac (Qhk fu r1 x5.qJ) λAa=>bif (!Aa.2) then some (⟨0,0,0,0⟩:Box) else Qac (Qfz fu r1) λAb=>bif (!Ab) then some (⟨0,0,0,0⟩:Box) else Qrs fu r1 x5 Aa
def Qm3 (fu:Nat) (b1:Box) (x2:Pallet):Option (Bool) :=
  Qac (Qbk fu b1.fW 1 x2.fW) λx8=>bif (!x8) then some (true) else Qac (Qbk fu b1.fD 1 x2.fD) λAc=>bif (!Ac) then some (true) else Qac (Qbk fu b1.fH 1 x2.fH) λAa=>bif (!Aa) then some (true) else Qac (Qbk fu b1.fQ 1 x2.fQ) λAb=>some (!Ab)
def Qcv (fu:Nat)  (Ab:List Box) (f5:Box→Option Bool) (k1:Int→Option (Int)) (Aa:Int):Option (Int) :=
  bif (decide (Aa<(Ab.length:Int))) then Qac (ix Ab Aa) λAc=>Qac (f5 Ac) λAd=>bif Ad then some (Aa) else k1 (w64 (Aa+1)) else some ((-1))
def Qa4 (fu:Nat)  (Aa:List Box) (f5:Box→Option Bool):Nat→Int→Option (Int)
  | 0=>λ_=>none
  | n+1=>Qcv fu Aa f5 (Qa4 fu Aa f5 n)
def Qdm (fu:Nat) (Aa:List Box) (f5:Box→Option Bool):Option (Int) :=
  Qa4 fu Aa f5 fu 0
def Qb3 (fu:Nat) (Aa:List Box) (f5:Box→Option Bool):Option (Bool) :=
  Qac (Qdm fu Aa f5) λAb=>some (decide (Ab≥0))
def Qne (fu:Nat) (p1:Pallet) (Ac:List Box):Option (Bool) :=
  Qac (Qe9 fu p1) λAa=>bif Aa then Qac (Qb3 fu Ac (λAb=>Qm3 fu Ab p1)) λAd=>some (!Ad) else some (false)
def Qpn (fu:Nat) (k8:List Shelf→Int→Option ((List Shelf))) (Ab:Int) (Aa:List Shelf):Option ((List Shelf)) :=
  k8 Aa (w64 (Ab+1))
def Qdz (fu:Nat) (k8:List Shelf→Int→Option ((List Shelf))) (Ai:Int) (Ah:Int) (Ac:Box) (Ag:List Shelf) (Ae:Int):Option ((List Shelf)) :=
  Qac (ix Ag Ae) λAb=>Qac (Qg4 8 Ab.f9 (([Ah]:List Int))) λAf=>Qac (some ((⟨(⟨Af,Ab.fW,Ab.fD,Ab.fH,Ab.fQ⟩:Shelf).f9,w64 (((⟨Af,Ab.fW,Ab.fD,Ab.fH,Ab.fQ⟩:Shelf).fW)+Ac.fW),(⟨Af,Ab.fW,Ab.fD,Ab.fH,Ab.fQ⟩:Shelf).fD,(⟨Af,Ab.fW,Ab.fD,Ab.fH,Ab.fQ⟩:Shelf).fH,(⟨Af,Ab.fW,Ab.fD,Ab.fH,Ab.fQ⟩:Shelf).fQ⟩:Shelf))) λAa=>Qac (some (Qhe (Qhe Ag Ae (⟨Af,Ab.fW,Ab.fD,Ab.fH,Ab.fQ⟩:Shelf)) Ae Aa)) λAj=>Qac (some ((⟨(⟨Aa.f9,Aa.fW,if Ac.fD>Aa.fD then Ac.fD else Aa.fD,Aa.fH,Aa.fQ⟩:Shelf).f9,(⟨Aa.f9,Aa.fW,if Ac.fD>Aa.fD then Ac.fD else Aa.fD,Aa.fH,Aa.fQ⟩:Shelf).fW,(⟨Aa.f9,Aa.fW,if Ac.fD>Aa.fD then Ac.fD else Aa.fD,Aa.fH,Aa.fQ⟩:Shelf).fD,if Ac.fH>((⟨Aa.f9,Aa.fW,if Ac.fD>Aa.fD then Ac.fD else Aa.fD,Aa.fH,Aa.fQ⟩:Shelf).fH) then Ac.fH else (⟨Aa.f9,Aa.fW,if Ac.fD>Aa.fD then Ac.fD else Aa.fD,Aa.fH,Aa.fQ⟩:Shelf).fH,(⟨Aa.f9,Aa.fW,if Ac.fD>Aa.fD then Ac.fD else Aa.fD,Aa.fH,Aa.fQ⟩:Shelf).fQ⟩:Shelf))) λAd=>Qac (some (Qhe (Qhe Aj Ae (⟨Aa.f9,Aa.fW,if Ac.fD>Aa.fD then Ac.fD else Aa.fD,Aa.fH,Aa.fQ⟩:Shelf)) Ae Ad)) λAk=>Qpn fu k8 Ai (Qhe Ak Ae (⟨Ad.f9,Ad.fW,Ad.fD,Ad.fH,w64 (Ad.fQ+Ac.fQ)⟩:Shelf))
def Qlz (fu:Nat)  (p1:Pallet) (Ai:List Box) (Af:(List Int)) (k8:List Shelf→Int→Option ((List Shelf))) (Aa:List Shelf) (Ac:Int):Option ((List Shelf)) :=
  bif (decide (Ac<(Af.length:Int))) then Qac (ix Af Ac) λAd=>Qac (ix Ai Ad) λAb=>bif (decide ((w64 ((Aa.length:Int) - 1))<0)) then Qac (Qg4 56 Aa [(⟨[],0,0,0,0⟩:Shelf)]) λAh=>Qdz fu k8 Ac Ad Ab Ah (w64 ((w64 ((Aa.length:Int) - 1))+1)) else Qac (ix Aa (w64 ((Aa.length:Int) - 1))) λAe=>bif (decide ((w64 (Ae.fW+Ab.fW))>p1.fW)) then Qac (Qg4 56 Aa [(⟨[],0,0,0,0⟩:Shelf)]) λAj=>Qdz fu k8 Ac Ad Ab Aj (w64 ((w64 ((Aa.length:Int) - 1))+1)) else Qac (ix Aa (w64 ((Aa.length:Int) - 1))) λAk=>bif (decide ((w64 (Ae.fQ+Ab.fQ))>p1.fQ)) then Qac (Qg4 56 Aa [(⟨[],0,0,0,0⟩:Shelf)]) λAg=>Qdz fu k8 Ac Ad Ab Ag (w64 ((w64 ((Aa.length:Int) - 1))+1)) else Qdz fu k8 Ac Ad Ab Aa (w64 ((Aa.length:Int) - 1)) else some (Aa)
def Qb9 (fu:Nat)  (p1:Pallet) (Aa:List Box) (Ab:(List Int)):Nat→List Shelf→Int→Option ((List Shelf))
  | 0=>λ_ _=>none
  | n+1=>Qlz fu p1 Aa Ab (Qb9 fu p1 Aa Ab n)
def Ql8 (fu:Nat)  (p1:Pallet) (Ab:List Box) (k1:List Int→Int→Option ((List Shelf))) (Ac:List Int) (Aa:Int):Option ((List Shelf)) :=
  bif (decide (Aa<(Ab.length:Int))) then Qac (ix Ab Aa) λAd=>Qac (Qg4 8 Ac (([Ad.fD]:List Int))) λAe=>k1 Ae (w64 (Aa+1)) else Qac (Qho fu Ac) λAf=>Qb9 fu p1 Ab Af fu (([]:List Shelf)) 0
def Qg2 (fu:Nat)  (p1:Pallet) (Aa:List Box):Nat→List Int→Int→Option ((List Shelf))
  | 0=>λ_ _=>none
  | n+1=>Ql8 fu p1 Aa (Qg2 fu p1 Aa n)
def Qqf (fu:Nat) (p1:Pallet) (Aa:List Box):Option ((List Shelf)) :=
  Qac (Qne fu p1 Aa) λAb=>bif (!Ab) then some (([]:List Shelf)) else Qg2 fu p1 Aa fu (([]:List Int)) 0
def Qno (fu:Nat) (Aa:Shelf) (x5:Pallet):Option (Bool) :=
  Qac (Qbk fu Aa.fD 1 x5.fD) λAd=>bif (!Ad) then some (true) else Qac (Qbk fu Aa.fH 1 x5.fH) λAb=>bif (!Ab) then some (true) else Qac (Qbk fu Aa.fQ 1 x5.fQ) λAc=>some (!Ac)
def Qcd (fu:Nat)  (Ab:List Shelf) (f5:Shelf→Option Bool) (k1:Int→Option (Int)) (Aa:Int):Option (Int) :=
  bif (decide (Aa<(Ab.length:Int))) then Qac (ix Ab Aa) λAd=>Qac (f5 Ad) λAc=>bif Ac then some (Aa) else k1 (w64 (Aa+1)) else some ((-1))
def Qat (fu:Nat)  (Aa:List Shelf) (f5:Shelf→Option Bool):Nat→Int→Option (Int)
  | 0=>λ_=>none
  | n+1=>Qcd fu Aa f5 (Qat fu Aa f5 n)
def Qcy (fu:Nat) (Aa:List Shelf) (f5:Shelf→Option Bool):Option (Int) :=
  Qat fu Aa f5 fu 0
def Qbr (fu:Nat) (Aa:List Shelf) (f5:Shelf→Option Bool):Option (Bool) :=
  Qac (Qcy fu Aa f5) λAb=>some (decide (Ab≥0))
def Qmw (fu:Nat) (p1:Pallet) (Ac:List Shelf):Option (Bool) :=
  Qac (Qe9 fu p1) λAa=>bif Aa then Qac (Qbr fu Ac (λAb=>Qno fu Ab p1)) λAd=>some (!Ad) else some (false)
def Qnr (fu:Nat) (k7:List Layer→Int→Option ((List Layer))) (Ab:Int) (Aa:List Layer):Option ((List Layer)) :=
  k7 Aa (w64 (Ab+1))
def Qdl (fu:Nat) (k7:List Layer→Int→Option ((List Layer))) (Ag:Int) (Ac:Shelf) (Af:List Layer) (Ae:Int):Option ((List Layer)) :=
  Qac (ix Af Ae) λAb=>Qac (Qg4 8 Ab.fE (([Ag]:List Int))) λAd=>Qac (some ((⟨(⟨Ad,Ab.fD,Ab.fH,Ab.fQ⟩:Layer).fE,w64 (((⟨Ad,Ab.fD,Ab.fH,Ab.fQ⟩:Layer).fD)+Ac.fD),(⟨Ad,Ab.fD,Ab.fH,Ab.fQ⟩:Layer).fH,(⟨Ad,Ab.fD,Ab.fH,Ab.fQ⟩:Layer).fQ⟩:Layer))) λAa=>Qac (some (Qhe (Qhe Af Ae (⟨Ad,Ab.fD,Ab.fH,Ab.fQ⟩:Layer)) Ae Aa)) λAj=>Qac (some ((⟨(⟨Aa.fE,Aa.fD,if Ac.fH>Aa.fH then Ac.fH else Aa.fH,Aa.fQ⟩:Layer).fE,(⟨Aa.fE,Aa.fD,if Ac.fH>Aa.fH then Ac.fH else Aa.fH,Aa.fQ⟩:Layer).fD,(⟨Aa.fE,Aa.fD,if Ac.fH>Aa.fH then Ac.fH else Aa.fH,Aa.fQ⟩:Layer).fH,w64 (((⟨Aa.fE,Aa.fD,if Ac.fH>Aa.fH then Ac.fH else Aa.fH,Aa.fQ⟩:Layer).fQ)+Ac.fQ)⟩:Layer))) λAh=>Qac (some (Qhe (Qhe Aj Ae (⟨Aa.fE,Aa.fD,if Ac.fH>Aa.fH then Ac.fH else Aa.fH,Aa.fQ⟩:Layer)) Ae Ah)) λAi=>Qnr fu k7 Ag Ai
def Qjr (fu:Nat)  (p1:Pallet) (Ad:List Shelf) (k7:List Layer→Int→Option ((List Layer))) (Aa:List Layer) (Ac:Int):Option ((List Layer)) :=
  bif (decide (Ac<(Ad.length:Int))) then Qac (ix Ad Ac) λAb=>bif (decide ((w64 ((Aa.length:Int) - 1))<0)) then Qac (Qg4 48 Aa [(⟨[],0,0,0⟩:Layer)]) λAg=>Qdl fu k7 Ac Ab Ag (w64 ((w64 ((Aa.length:Int) - 1))+1)) else Qac (ix Aa (w64 ((Aa.length:Int) - 1))) λAe=>bif (decide ((w64 (Ae.fD+Ab.fD))>p1.fD)) then Qac (Qg4 48 Aa [(⟨[],0,0,0⟩:Layer)]) λAf=>Qdl fu k7 Ac Ab Af (w64 ((w64 ((Aa.length:Int) - 1))+1)) else Qac (ix Aa (w64 ((Aa.length:Int) - 1))) λAi=>bif (decide ((w64 (Ae.fQ+Ab.fQ))>p1.fQ)) then Qac (Qg4 48 Aa [(⟨[],0,0,0⟩:Layer)]) λAh=>Qdl fu k7 Ac Ab Ah (w64 ((w64 ((Aa.length:Int) - 1))+1)) else Qdl fu k7 Ac Ab Aa (w64 ((Aa.length:Int) - 1)) else some (Aa)
def Qb8 (fu:Nat)  (p1:Pallet) (Aa:List Shelf):Nat→List Layer→Int→Option ((List Layer))
  | 0=>λ_ _=>none
  | n+1=>Qjr fu p1 Aa (Qb8 fu p1 Aa n)
def Qog (fu:Nat) (p1:Pallet) (Aa:List Shelf):Option ((List Layer)) :=
  Qac (Qmw fu p1 Aa) λAb=>bif (!Ab) then some (([]:List Layer)) else Qb8 fu p1 Aa fu (([]:List Layer)) 0
def Qo2 (fu:Nat) (x1:Layer) (x5:Pallet):Option (Bool) :=
  Qac (Qbk fu x1.fD 1 x5.fD) λAc=>bif (!Ac) then some (true) else Qac (Qbk fu x1.fH 1 x5.fH) λAa=>bif (!Aa) then some (true) else Qac (Qbk fu x1.fQ 1 x5.fQ) λAb=>some (!Ab)
def Qcb (fu:Nat)  (Ab:List Layer) (f5:Layer→Option Bool) (k1:Int→Option (Int)) (Aa:Int):Option (Int) :=
  bif (decide (Aa<(Ab.length:Int))) then Qac (ix Ab Aa) λAd=>Qac (f5 Ad) λAc=>bif Ac then some (Aa) else k1 (w64 (Aa+1)) else some ((-1))
def Qas (fu:Nat)  (Aa:List Layer) (f5:Layer→Option Bool):Nat→Int→Option (Int)
  | 0=>λ_=>none
  | n+1=>Qcb fu Aa f5 (Qas fu Aa f5 n)
def Qcx (fu:Nat) (Aa:List Layer) (f5:Layer→Option Bool):Option (Int) :=
  Qas fu Aa f5 fu 0
def Qbq (fu:Nat) (Aa:List Layer) (f5:Layer→Option Bool):Option (Bool) :=
  Qac (Qcx fu Aa f5) λAb=>some (decide (Ab≥0))
def Qoc (fu:Nat) (p1:Pallet) (Ac:List Layer):Option (Bool) :=
  Qac (Qe9 fu p1) λAa=>bif Aa then Qac (Qbq fu Ac (λAb=>Qo2 fu Ab p1)) λAd=>some (!Ad) else some (false)
def Qpp (fu:Nat) (k7:List Load→Int→Option ((List Load))) (Aa:Int) (Ab:List Load):Option ((List Load)) :=
  k7 Ab (w64 (Aa+1))
def Qd4 (fu:Nat) (k7:List Load→Int→Option ((List Load))) (Ae:Int) (Ag:Layer) (Af:List Load) (Ab:Int):Option ((List Load)) :=
  Qac (ix Af Ab) λAa=>Qac (Qg4 8 Aa.f8 (([Ae]:List Int))) λAc=>Qac (some ((⟨(⟨Ac,Aa.fH,Aa.fQ⟩:Load).f8,w64 (((⟨Ac,Aa.fH,Aa.fQ⟩:Load).fH)+Ag.fH),(⟨Ac,Aa.fH,Aa.fQ⟩:Load).fQ⟩:Load))) λAd=>Qac (some (Qhe (Qhe Af Ab (⟨Ac,Aa.fH,Aa.fQ⟩:Load)) Ab Ad)) λAh=>Qpp fu k7 Ae (Qhe Ah Ab (⟨Ad.f8,Ad.fH,w64 (Ad.fQ+Ag.fQ)⟩:Load))
def Qly (fu:Nat)  (p1:Pallet) (Ae:List Layer) (k7:List Load→Int→Option ((List Load))) (Aa:List Load) (Ab:Int):Option ((List Load)) :=
  bif (decide (Ab<(Ae.length:Int))) then Qac (ix Ae Ab) λAc=>bif (decide ((w64 ((Aa.length:Int) - 1))<0)) then Qac (Qg4 40 Aa [(⟨[],0,0⟩:Load)]) λAg=>Qd4 fu k7 Ab Ac Ag (w64 ((w64 ((Aa.length:Int) - 1))+1)) else Qac (ix Aa (w64 ((Aa.length:Int) - 1))) λAd=>bif (decide ((w64 (Ad.fH+Ac.fH))>p1.fH)) then Qac (Qg4 40 Aa [(⟨[],0,0⟩:Load)]) λAf=>Qd4 fu k7 Ab Ac Af (w64 ((w64 ((Aa.length:Int) - 1))+1)) else Qac (ix Aa (w64 ((Aa.length:Int) - 1))) λAi=>bif (decide ((w64 (Ad.fQ+Ac.fQ))>p1.fQ)) then Qac (Qg4 40 Aa [(⟨[],0,0⟩:Load)]) λAh=>Qd4 fu k7 Ab Ac Ah (w64 ((w64 ((Aa.length:Int) - 1))+1)) else Qd4 fu k7 Ab Ac Aa (w64 ((Aa.length:Int) - 1)) else some (Aa)
def Qcn (fu:Nat)  (p1:Pallet) (Aa:List Layer):Nat→List Load→Int→Option ((List Load))
  | 0=>λ_ _=>none
  | n+1=>Qly fu p1 Aa (Qcn fu p1 Aa n)
def Qp2 (fu:Nat) (p1:Pallet) (Aa:List Layer):Option ((List Load)) :=
  Qac (Qoc fu p1 Aa) λAb=>bif (!Ab) then some (([]:List Load)) else Qcn fu p1 Aa fu (([]:List Load)) 0
def Qlj (fu:Nat) (Al:List Spot→Int→Int→Option ((List Spot))) (Ap:List Box) (Ak:(List Shelf)) (Ag:Int) (Ah:Int) (Ae:Int) (Aj:Int) (Am:Int) (Af:Shelf) (Aq:List Spot→Int→Int→Option ((List Spot))) (Aa:List Spot) (Ad:Int) (Ab:Int):Option ((List Spot)) :=
  bif (decide (Ab<(Af.f9.length:Int))) then Qac (ix Af.f9 Ab) λAc=>Qac (ix Aa Ac) λAr=>Qac (ix Ap Ac) λAo=>Aq (Qhe Aa Ac (⟨Ag,Ad,Ae,Ah⟩:Spot)) (w64 (Ad+Ao.fW)) (w64 (Ab+1)) else Qac (ix Ak Am) λAi=>Al Aa (w64 (Ae+Ai.fD)) (w64 (Aj+1))
def Qg5 (fu:Nat) (Ae:List Spot→Int→Int→Option ((List Spot))) (Ag:List Box) (Ad:(List Shelf)) (Aa:Int) (Ab:Int) (Ah:Int) (Ac:Int) (Af:Int) (Ai:Shelf):Nat→List Spot→Int→Int→Option ((List Spot))
  | 0=>λ_ _ _=>none
  | n+1=>Qlj fu Ae Ag Ad Aa Ab Ah Ac Af Ai (Qg5 fu Ae Ag Ad Aa Ab Ah Ac Af Ai n)
def Qlb (fu:Nat) (Aj:List Spot→Int→Int→Option ((List Spot))) (Am:List Box) (Ac:(List Shelf)) (Ai:(List Layer)) (Ag:Int) (Ab:Int) (Ah:Int) (Ak:Int) (Af:Layer) (Al:List Spot→Int→Int→Option ((List Spot))) (Ad:List Spot) (Ao:Int) (Aa:Int):Option ((List Spot)) :=
  bif (decide (Aa<(Af.fE.length:Int))) then Qac (ix Af.fE Aa) λAe=>Qac (ix Ac Ae) λAq=>Qg5 fu Al Am Ac Ag Ab Ao Aa Ae Aq fu Ad 0 0 else Qac (ix Ai Ak) λAp=>Aj Ad (w64 (Ab+Ap.fH)) (w64 (Ah+1))
def Qdx (fu:Nat) (Af:List Spot→Int→Int→Option ((List Spot))) (Ah:List Box) (Ad:(List Shelf)) (Ae:(List Layer)) (Aa:Int) (Ab:Int) (Ac:Int) (Ag:Int) (Ai:Layer):Nat→List Spot→Int→Int→Option ((List Spot))
  | 0=>λ_ _ _=>none
  | n+1=>Qlb fu Af Ah Ad Ae Aa Ab Ac Ag Ai (Qdx fu Af Ah Ad Ae Aa Ab Ac Ag Ai n)
def Qlm (fu:Nat) (Ah:List Spot→Int→Option ((List Spot))) (Ak:List Box) (Ai:(List Shelf)) (Ac:(List Layer)) (Ab:Int) (Af:Load) (Aj:List Spot→Int→Int→Option ((List Spot))) (Ae:List Spot) (Ag:Int) (Aa:Int):Option ((List Spot)) :=
  bif (decide (Aa<(Af.f8.length:Int))) then Qac (ix Af.f8 Aa) λAd=>Qac (ix Ac Ad) λAl=>Qdx fu Aj Ak Ai Ac Ab Ag Aa Ad Al fu Ae 0 0 else Ah Ae (w64 (Ab+1))
def Qcm (fu:Nat) (Af:List Spot→Int→Option ((List Spot))) (Ae:List Box) (Ab:(List Shelf)) (Ac:(List Layer)) (Aa:Int) (Ad:Load):Nat→List Spot→Int→Int→Option ((List Spot))
  | 0=>λ_ _ _=>none
  | n+1=>Qlm fu Af Ae Ab Ac Aa Ad (Qcm fu Af Ae Ab Ac Aa Ad n)
def Qmg (fu:Nat)  (Ag:List Box) (Ad:(List Shelf)) (Ae:(List Layer)) (Ab:(List Load)) (Ah:List Spot→Int→Option ((List Spot))) (Ac:List Spot) (Aa:Int):Option ((List Spot)) :=
  bif (decide (Aa<(Ab.length:Int))) then Qac (ix Ab Aa) λAf=>Qcm fu Ah Ag Ad Ae Aa Af fu Ac 0 0 else some (Ac)
def Qbv (fu:Nat)  (Ac:List Box) (Aa:(List Shelf)) (Ab:(List Layer)) (Ad:(List Load)):Nat→List Spot→Int→Option ((List Spot))
  | 0=>λ_ _=>none
  | n+1=>Qmg fu Ac Aa Ab Ad (Qbv fu Ac Aa Ab Ad n)
def Qnb (fu:Nat) (p1:Pallet) (Aa:List Box):Option ((List Spot)) :=
  Qac (Qne fu p1 Aa) λAd=>bif (!Ad) then some (([]:List Spot)) else Qac (Qqf fu p1 Aa) λAc=>Qac (Qog fu p1 Ac) λAb=>Qac (mk 32 (⟨(0:Int),(0:Int),(0:Int),(0:Int)⟩:Spot) (Aa.length:Int)) λAf=>Qac (Qp2 fu p1 Ab) λAe=>Qbv fu Aa Ac Ab Ae fu Af 0
def Qkf (fu:Nat) (k3:Int→Int→Option (Int)) (Ab:Int) (Aa:Int):Option (Int) :=
  k3 Aa (w64 (Ab+1))
def Qlv (fu:Nat)  (Ad:List Spot) (k3:Int→Int→Option (Int)) (Ab:Int) (Aa:Int):Option (Int) :=
  bif (decide (Aa<(Ad.length:Int))) then Qac (ix Ad Aa) λAc=>Qac (Qbk fu Ac.fJ 0 999999) λAe=>bif Ae then Qkf fu k3 Aa (if (w64 (Ac.fJ+1))>Ab then w64 (Ac.fJ+1) else Ab) else Qkf fu k3 Aa Ab else some (Ab)
def Qfp (fu:Nat)  (Aa:List Spot):Nat→Int→Int→Option (Int)
  | 0=>λ_ _=>none
  | n+1=>Qlv fu Aa (Qfp fu Aa n)
def Qjj (fu:Nat) (Aa:List Spot):Option (Int) :=
  Qfp fu Aa fu 0 0
def Qmt (fu:Nat) (Ab:List Box→Int→Option (Plan×Bool)) (Ac:Int) (Aa:List Box):Option (Plan×Bool) :=
  Ab Aa (w64 (Ac+1))
def Qny (fu:Nat) (Ai:List Spot→Int→Int→Option (Plan×Bool)) (Ae:Int) (Af:Int) (Ad:(List Spot)) (Ag:Int) (Aj:List Spot→Int→Option (Plan×Bool)) (Ac:List Spot) (Ab:Int):Option (Plan×Bool) :=
  bif (decide (Ab<(Ad.length:Int))) then Qac (ix Ad Ab) λAa=>Qac (Qg4 32 Ac (([(⟨w64 (Aa.fJ+Ae),Aa.fX,Aa.fY,Aa.fZ⟩:Spot)]:List Spot))) λAh=>Aj Ah (w64 (Ab+1)) else Ai Ac (w64 (Ae+Ag)) (w64 (Af+1))
def Qgt (fu:Nat) (Ad:List Spot→Int→Int→Option (Plan×Bool)) (Ae:Int) (Aa:Int) (Ab:(List Spot)) (Ac:Int):Nat→List Spot→Int→Option (Plan×Bool)
  | 0=>λ_ _=>none
  | n+1=>Qny fu Ad Ae Aa Ab Ac (Qgt fu Ad Ae Aa Ab Ac n)
def Qn5 (fu:Nat) (Al:List Spot→Int→Int→Option (Plan×Bool)) (r1:Request) (Ag:(List Carton)) (Ah:List Spot) (Am:Int) (Ac:Int) (Af:List Box→Int→Option (Plan×Bool)) (Ab:List Box) (Aa:Int):Option (Plan×Bool) :=
  bif (decide (Aa<(Ag.length:Int))) then Qac (ix Ag Aa) λAe=>bif (Ae.fM==Ac) then Qac (Qq6 fu r1 Ae) λAk=>Qac (Qg4 32 Ab (([Ak]:List Box))) λAj=>Qmt fu Af Aa Aj else Qmt fu Af Aa Ab else Qac (Qnb fu r1.fJ Ab) λAd=>Qac (Qjj fu Ad) λAi=>Qgt fu Al Am Ac Ad Ai fu Ah 0
def Qgn (fu:Nat) (Ad:List Spot→Int→Int→Option (Plan×Bool)) (r1:Request) (Ac:(List Carton)) (Ab:List Spot) (Ae:Int) (Aa:Int):Nat→List Box→Int→Option (Plan×Bool)
  | 0=>λ_ _=>none
  | n+1=>Qn5 fu Ad r1 Ac Ab Ae Aa (Qgn fu Ad r1 Ac Ab Ae Aa n)
def Qn8 (fu:Nat)  (r1:Request) (Ac:(List Carton)) (Ad:(List (List Int))) (Ae:List Spot→Int→Int→Option (Plan×Bool)) (Ab:List Spot) (Af:Int) (Aa:Int):Option (Plan×Bool) :=
  bif (decide (Aa<(Ad.length:Int))) then Qgn fu Ae r1 Ac Ab Af Aa fu (([]:List Box)) 0 else some ((⟨Ac,Ab⟩:Plan),true)
def Qcr (fu:Nat)  (r1:Request) (Ab:(List Carton)) (Aa:(List (List Int))):Nat→List Spot→Int→Int→Option (Plan×Bool)
  | 0=>λ_ _ _=>none
  | n+1=>Qn8 fu r1 Ab Aa (Qcr fu r1 Ab Aa n)
def Qrk (fu:Nat) (r1:Request):Option (Plan×Bool) :=
  Qac (Qfz fu r1) λAa=>bif (!Aa) then some ((⟨[],[]⟩:Plan),false) else Qac (Qms fu r1) λAc=>Qac (Qhp fu r1) λAb=>Qcr fu r1 Ac Ab fu (([]:List Spot)) 0 0
def Qkq (fu:Nat) (Ab:List Int→Int→Option ((List Int))) (Aa:Int) (Ac:List Int):Option ((List Int)) :=
  Ab Ac (w64 (Aa+1))
def Qkn (fu:Nat) (Ab:Bool→Int→Option ((List Int))) (Ac:Int) (Aa:Bool):Option ((List Int)) :=
  Ab Aa (w64 (Ac+1))
def Qk9 (fu:Nat) (Ac:List Int→Int→Option ((List Int))) (r1:Request) (Ad:List Int) (Aa:Int) (Af:Bool→Int→Option ((List Int))) (Ae:Bool) (Ab:Int):Option ((List Int)) :=
  bif (decide (Ab<(r1.fU.length:Int))) then bif Ae then Qkn fu Af Ab true else Qac (ix r1.fU Ab) λAg=>Qkn fu Af Ab (Ag.fL==Aa) else bif Ae then Qac (Qg4 8 Ad (([Aa]:List Int))) λAh=>Qkq fu Ac Aa Ah else Qkq fu Ac Aa Ad
def Qep (fu:Nat) (Ab:List Int→Int→Option ((List Int))) (r1:Request) (Ac:List Int) (Aa:Int):Nat→Bool→Int→Option ((List Int))
  | 0=>λ_ _=>none
  | n+1=>Qk9 fu Ab r1 Ac Aa (Qep fu Ab r1 Ac Aa n)
def Ql5 (fu:Nat)  (r1:Request) (Ac:List Int→Int→Option ((List Int))) (Ab:List Int) (Aa:Int):Option ((List Int)) :=
  bif (decide (Aa<4)) then Qep fu Ac r1 Ab Aa fu false 0 else some (Ab)
def Qd5 (fu:Nat)  (r1:Request):Nat→List Int→Int→Option ((List Int))
  | 0=>λ_ _=>none
  | n+1=>Ql5 fu r1 (Qd5 fu r1 n)
def Qqh (fu:Nat) (r1:Request):Option ((List Int)) :=
  Qac (Qfs fu r1) λAa=>bif (Aa != 0) then some (([]:List Int)) else Qd5 fu r1 fu (([]:List Int)) 0
def Qpl (fu:Nat)  (Ab:List Int) (x5:Int) (k1:Int→Option (Bool)) (Aa:Int):Option (Bool) :=
  bif (decide (Aa<(Ab.length:Int))) then Qac (ix Ab Aa) λAc=>bif (Ac==x5) then some (true) else k1 (w64 (Aa+1)) else some (false)
def Qik (fu:Nat)  (Aa:List Int) (x5:Int):Nat→Int→Option (Bool)
  | 0=>λ_=>none
  | n+1=>Qpl fu Aa x5 (Qik fu Aa x5 n)
def Qrd (fu:Nat) (Aa:List Int) (x5:Int):Option (Bool) :=
  Qik fu Aa x5 fu 0
def Qo7 (fu:Nat) (k3:Int→Option (Bool)) (Aa:Int)  : Option (Bool) :=
  k3 (w64 (Aa+1))
def Qls (fu:Nat)  (Ad:List Pair) (Ab:List Int) (Ae:Int) (k3:Int→Option (Bool)) (Aa:Int):Option (Bool) :=
  bif (decide (Aa<(Ab.length:Int))) then Qac (ix Ab Aa) λAc=>Qac (Qgk fu Ad Ac Ae) λAf=>bif (!Af) then some (false) else Qac (ix Ab Aa) λAh=>Qac (Qgk fu Ad Ae Ac) λAg=>bif (!Ag) then some (false) else Qo7 fu k3 Aa else some (true)
def Qf2 (fu:Nat)  (Aa:List Pair) (Ab:List Int) (Ac:Int):Nat→Int→Option (Bool)
  | 0=>λ_=>none
  | n+1=>Qls fu Aa Ab Ac (Qf2 fu Aa Ab Ac n)
def Qqj (fu:Nat) (Aa:List Pair) (Ab:List Int) (Ac:Int):Option (Bool) :=
  Qf2 fu Aa Ab Ac fu 0
def Qhw (fu:Nat) (Aa:List (List Int)→Int→Option ((List (List Int)))) (Ac:Int) (Ab:List (List Int)):Option ((List (List Int))) :=
  Aa Ab (w64 (Ac+1))
def Qmy (fu:Nat) (Ab:Int→Int→Option ((List (List Int)))) (Aa:Int) (Ac:Int):Option ((List (List Int))) :=
  Ab Ac (w64 (Aa - 1))
def Qnl (fu:Nat) (Ae:List (List Int)→Int→Option ((List (List Int)))) (Ag:List Pair) (Ab:List (List Int)) (Aa:Int) (Af:Int→Int→Option ((List (List Int)))) (Ad:Int) (Ac:Int):Option ((List (List Int))) :=
  bif (decide (Ac≥0)) then Qac (ix Ab Ac) λAj=>Qac (Qqj fu Ag Aj Aa) λAh=>bif Ah then Qmy fu Af Ac Ac else Qmy fu Af Ac Ad else bif (decide (Ad<0)) then Qac (Qg4 24 Ab [([Aa]:List Int)]) λAk=>Qhw fu Ae Aa Ak else Qac (ix Ab Ad) λAi=>Qac (Qg4 8 Ai (([Aa]:List Int))) λAl=>Qac (ix Ab Ad) λAm=>Qhw fu Ae Aa (Qhe Ab Ad Al)
def Qfa (fu:Nat) (Ab:List (List Int)→Int→Option ((List (List Int)))) (Ac:List Pair) (Aa:List (List Int)) (Ad:Int):Nat→Int→Int→Option ((List (List Int)))
  | 0=>λ_ _=>none
  | n+1=>Qnl fu Ab Ac Aa Ad (Qfa fu Ab Ac Aa Ad n)
def Qnw (fu:Nat)  (Ad:List Pair) (Af:List Int) (Ac:List (List Int)→Int→Option ((List (List Int)))) (Ab:List (List Int)) (Aa:Int):Option ((List (List Int))) :=
  bif (decide (Aa<4)) then Qac (Qrd fu Af Aa) λAe=>bif (!Ae) then Qhw fu Ac Aa Ab else Qfa fu Ac Ad Ab Aa fu ((-1)) (w64 ((Ab.length:Int) - 1)) else some (Ab)
def Qem (fu:Nat)  (Aa:List Pair) (Ab:List Int):Nat→List (List Int)→Int→Option ((List (List Int)))
  | 0=>λ_ _=>none
  | n+1=>Qnw fu Aa Ab (Qem fu Aa Ab n)
def Qri (fu:Nat) (Aa:List Pair) (Ab:List Int):Option ((List (List Int))) :=
  Qem fu Aa Ab fu (([]:List (List Int))) 0
def Qif (fu:Nat) (r1:Request):Option ((List (List Int))) :=
  Qac (Qqh fu r1) λAb=>Qac (Qri fu r1.fT Ab) λAa=>some (Aa)
def Ql6 (fu:Nat) (k3:List Int→Int→Option ((List Int))) (r1:Request) (Aa:Int) (k4:List Int→Int→Option ((List Int))) (Ac:List Int) (Ab:Int):Option ((List Int)) :=
  Qac (ix r1.fU Aa) λAd=>bif (decide (Ab<Ad.f0)) then Qac (Qg4 8 Ac (([Aa]:List Int))) λAe=>k4 Ae (w64 (Ab+1)) else k3 Ac (w64 (Aa+1))
def Qg7 (fu:Nat) (k3:List Int→Int→Option ((List Int))) (r1:Request) (Aa:Int):Nat→List Int→Int→Option ((List Int))
  | 0=>λ_ _=>none
  | n+1=>Ql6 fu k3 r1 Aa (Qg7 fu k3 r1 Aa n)
def Qk5 (fu:Nat)  (r1:Request) (k3:List Int→Int→Option ((List Int))) (Ab:List Int) (Aa:Int):Option ((List Int)) :=
  bif (decide (Aa<(r1.fU.length:Int))) then Qg7 fu k3 r1 Aa fu Ab 0 else some (Ab)
def Qeo (fu:Nat)  (r1:Request):Nat→List Int→Int→Option ((List Int))
  | 0=>λ_ _=>none
  | n+1=>Qk5 fu r1 (Qeo fu r1 n)
def Qdk (fu:Nat) (r1:Request):Option ((List Int)) :=
  Qeo fu r1 fu (([]:List Int)) 0
def Qkb (fu:Nat) (k3:List Int→Int→Option ((List Int))) (Aa:Int) (Ab:List Int):Option ((List Int)) :=
  k3 Ab (w64 (Aa+1))
def Qlw (fu:Nat)  (r1:Request) (Af:Int) (Aj:(List (List Int))) (Ac:(List Int)) (k3:List Int→Int→Option ((List Int))) (Ab:List Int) (Aa:Int):Option ((List Int)) :=
  bif (decide (Aa<(Ac.length:Int))) then Qac (ix Aj Af) λAg=>Qac (ix Ac Aa) λAh=>Qac (ix r1.fU Ah) λAe=>Qac (Qrd fu Ag Ae.fL) λAd=>bif Ad then Qac (Qg4 8 Ab (([Aa]:List Int))) λAi=>Qkb fu k3 Aa Ai else Qkb fu k3 Aa Ab else some (Ab)
def Qfn (fu:Nat)  (r1:Request) (Ab:Int) (Ac:(List (List Int))) (Aa:(List Int)):Nat→List Int→Int→Option ((List Int))
  | 0=>λ_ _=>none
  | n+1=>Qlw fu r1 Ab Ac Aa (Qfn fu r1 Ab Ac Aa n)
def Qqd (fu:Nat) (r1:Request) (Aa:Int):Option ((List Int)) :=
  Qac (Qif fu r1) λAb=>Qac (Qa1 fu Aa 0 (w64 ((Ab.length:Int) - 1))) λAd=>bif (!Ad) then some (([]:List Int)) else Qac (Qdk fu r1) λAc=>Qfn fu r1 Aa Ab Ac fu (([]:List Int)) 0
def Qkr (fu:Nat) (k3:List Int→Int→Option ((List Int))) (Aa:Int) (Ab:List Int):Option ((List Int)) :=
  k3 Ab (w64 (Aa+1))
def Ql4 (fu:Nat)  (Ag:List Int) (Ac:List Int) (k3:List Int→Int→Option ((List Int))) (Ab:List Int) (Aa:Int):Option ((List Int)) :=
  bif (decide (Aa<(Ac.length:Int))) then Qac (ix Ac Aa) λAd=>Qac (Qa1 fu Ad 0 (w64 ((Ag.length:Int) - 1))) λAf=>bif Af then Qac (ix Ac Aa) λAh=>Qac (Qg4 8 Ab (([Ad]:List Int))) λAe=>Qkr fu k3 Aa Ae else Qkr fu k3 Aa Ab else some (Ab)
def Qfr (fu:Nat)  (Aa:List Int) (Ab:List Int):Nat→List Int→Int→Option ((List Int))
  | 0=>λ_ _=>none
  | n+1=>Ql4 fu Aa Ab (Qfr fu Aa Ab n)
def Qnh (fu:Nat) (Aa:List Int) (Ab:List Int):Option ((List Int)) :=
  Qfr fu Aa Ab fu (([]:List Int)) 0
def Qmj (fu:Nat) (r1:Request) (Aa:List Int) (u9:Int):Option (Item×Bool) :=
  Qac (Qa1 fu u9 0 (w64 ((Aa.length:Int) - 1))) λAb=>bif (!Ab) then some ((⟨0,0,0,0,0,0,0⟩:Item),false) else Qac (ix Aa u9) λAd=>Qac (ix r1.fU Ad) λAc=>some (Ac,true)
def Qqx (fu:Nat) (Aa:Int) (h2:Int) (d3:Int)  : Option (Int) :=
  some (w64 ((w64 (Aa*h2))*d3))
def Ql0 (fu:Nat) (Aa:Int) (h2:Int) (d3:Int):Option (Int) :=
  Qac (Qa1 fu Aa 0 2000) λAc=>bif (!Ac) then some (0) else Qac (Qa1 fu h2 0 2000) λAb=>bif (!Ab) then some (0) else Qac (Qa1 fu d3 0 2000) λAd=>bif (!Ad) then some (0) else Qqx fu Aa h2 d3
def Qso (fu:Nat) (k7:L7→Int→Option (L7)) (Aa:Int) (Ab:L7):Option (L7) :=
  k7 Ab (w64 (Aa+1))
def Qst (fu:Nat) (k7:L7→Int→Option (L7)) (Ab:L7) (Ac:Int) (Aa:Item):Option (L7) :=
  Qac (Ql0 fu Aa.fW Aa.fH Aa.fD) λAd=>Qso fu k7 Ac (⟨w64 (Ab.fvol+Ad),w64 (Ab.fgram+Aa.fQ)⟩:L7)
def Qqz (fu:Nat)  (r1:Request) (Af:List Int) (Ab:List Int) (k7:L7→Int→Option (L7)) (Ac:L7) (Aa:Int):Option (L7) :=
  bif (decide (Aa<(Ab.length:Int))) then Qac (ix Ab Aa) λAd=>Qac (Qmj fu r1 Af Ad) λAe=>Qst fu k7 Ac Aa Ae.1 else some (Ac)
def Qhi (fu:Nat)  (r1:Request) (Aa:List Int) (Ab:List Int):Nat→L7→Int→Option (L7)
  | 0=>λ_ _=>none
  | n+1=>Qqz fu r1 Aa Ab (Qhi fu r1 Aa Ab n)
def Qq4 (fu:Nat) (r1:Request) (Aa:List Int) (Ab:List Int):Option (L7) :=
  Qhi fu r1 Aa Ab fu (⟨0,0⟩:L7) 0
def Qqy (fu:Nat) (m9:Typ) (Aa:L7):Option (Bool) :=
  Qac (Ql0 fu m9.fW m9.fH m9.fD) λAb=>bif (decide (Aa.fvol≤Ab)) then some (decide (Aa.fgram≤m9.fQ)) else some (false)
def Qps (fu:Nat) (r1:Request) (Ad:List Int) (m9:Typ) (Ac:List Int) (Aa:Int):Option (Bool) :=
  Qac (Qg4 8 (([]:List Int)) Ac) λAf=>Qac (Qg4 8 Af (([Aa]:List Int))) λAb=>Qac (Qq4 fu r1 Ad Ab) λAe=>Qqy fu m9 Ae
def Qiu (fu:Nat) (k3:List (List Int)→Int→Option ((List (List Int)))) (Ab:Int) (Aa:List (List Int)):Option ((List (List Int))) :=
  k3 Aa (w64 (Ab+1))
def Qn4 (fu:Nat)  (r1:Request) (Ac:List Int) (Ag:Typ×Bool) (Ak:(List Int)) (k3:List (List Int)→Int→Option ((List (List Int)))) (Aa:List (List Int)) (Ab:Int):Option ((List (List Int))) :=
  bif (decide (Ab<(Ac.length:Int))) then bif (decide ((Aa.length:Int)>0)) then Qac (ix Aa (w64 ((Aa.length:Int) - 1))) λAe=>Qac (ix Ac Ab) λAd=>Qac (Qps fu r1 Ak Ag.1 Ae Ad) λAf=>bif Af then Qac (ix Aa (w64 ((Aa.length:Int) - 1))) λAq=>Qac (ix Ac Ab) λAo=>Qac (Qg4 8 Ae (([Ad]:List Int))) λAi=>Qac (ix Aa (w64 ((Aa.length:Int) - 1))) λAp=>Qiu fu k3 Ab (Qhe Aa (w64 ((Aa.length:Int) - 1)) Ai) else Qac (ix Ac Ab) λAm=>Qac (Qg4 24 Aa [([Ad]:List Int)]) λAl=>Qiu fu k3 Ab Al else Qac (ix Ac Ab) λAj=>Qac (Qg4 24 Aa [([Aj]:List Int)]) λAh=>Qiu fu k3 Ab Ah else some (Aa)
def Qgq (fu:Nat)  (r1:Request) (Ac:List Int) (Ab:Typ×Bool) (Aa:(List Int)):Nat→List (List Int)→Int→Option ((List (List Int)))
  | 0=>λ_ _=>none
  | n+1=>Qn4 fu r1 Ac Ab Aa (Qgq fu r1 Ac Ab Aa n)
def Qte (fu:Nat) (r1:Request) (Ac:List Int):Option ((List (List Int))) :=
  Qac (Qgi fu r1) λAb=>Qac (Qdk fu r1) λAa=>Qgq fu r1 Ac Ab Aa fu (([]:List (List Int))) 0
def Qqg (fu:Nat) (r1:Request) (Ad:List Int):Option ((List (List Int))) :=
  Qac (Qfs fu r1) λAc=>bif (Ac != 0) then some (([]:List (List Int))) else Qac (Qdk fu r1) λAb=>Qac (Qnh fu Ab Ad) λAa=>Qac (Qte fu r1 Aa) λAe=>some (Ae)
def Qhl (fu:Nat) (Aa:List Int):Option ((List Int)) :=
  Qac (Qku fu (Aa.length:Int)) λx5=>Qac (Qpx fu Aa x5 true) λAb=>some (Ab)
def Qkz (fu:Nat) (Ab:List (List Int)→Int→Option ((List (List Int)))) (Aa:Int) (Ac:List (List Int)):Option ((List (List Int))) :=
  Ab Ac (w64 (Aa+1))
def Qkm (fu:Nat) (Aa:Int→Int→Option ((List (List Int)))) (Ab:Int) (Ac:Int):Option ((List (List Int))) :=
  Aa Ac (w64 (Ab - 1))
def Qlo (fu:Nat) (Ae:List (List Int)→Int→Option ((List (List Int)))) (r1:Request) (Am:Typ×Bool) (Aj:(List Int)) (Ab:List (List Int)) (Af:Int) (Ad:Int) (Ag:Int→Int→Option ((List (List Int)))) (Ac:Int) (Aa:Int):Option ((List (List Int))) :=
  bif (decide (Aa≥0)) then Qac (ix Ab Aa) λAi=>Qac (Qps fu r1 Aj Am.1 Ai Ad) λAh=>bif Ah then Qkm fu Ag Aa Aa else Qkm fu Ag Aa Ac else bif (decide (Ac<0)) then Qac (Qg4 24 Ab [([Ad]:List Int)]) λAo=>Qkz fu Ae Af Ao else Qac (ix Ab Ac) λAk=>Qac (Qg4 8 Ak (([Ad]:List Int))) λAl=>Qac (ix Ab Ac) λAp=>Qkz fu Ae Af (Qhe Ab Ac Al)
def Qfq (fu:Nat) (Aa:List (List Int)→Int→Option ((List (List Int)))) (r1:Request) (Af:Typ×Bool) (Ac:(List Int)) (Ae:List (List Int)) (Ab:Int) (Ad:Int):Nat→Int→Int→Option ((List (List Int)))
  | 0=>λ_ _=>none
  | n+1=>Qlo fu Aa r1 Af Ac Ae Ab Ad (Qfq fu Aa r1 Af Ac Ae Ab Ad n)
def Qmc (fu:Nat)  (r1:Request) (Ai:List Int) (Ah:Typ×Bool) (Af:(List Int)) (Ac:(List Int)) (Ad:List (List Int)→Int→Option ((List (List Int)))) (Ab:List (List Int)) (Aa:Int):Option ((List (List Int))) :=
  bif (decide (Aa<(Ac.length:Int))) then Qac (ix Ac Aa) λAe=>Qac (ix Ai Ae) λAg=>Qfq fu Ad r1 Ah Af Ab Aa Ag fu ((-1)) (w64 ((Ab.length:Int) - 1)) else some (Ab)
def Qc2 (fu:Nat)  (r1:Request) (Ac:List Int) (Ab:Typ×Bool) (Aa:(List Int)) (Ad:(List Int)):Nat→List (List Int)→Int→Option ((List (List Int)))
  | 0=>λ_ _=>none
  | n+1=>Qmc fu r1 Ac Ab Aa Ad (Qc2 fu r1 Ac Ab Aa Ad n)
def Qme (fu:Nat)  (r1:Request) (Ab:List Int) (Ag:Typ×Bool) (Ad:(List Int)) (k1:List Int→Int→Option ((List (List Int)))) (Ac:List Int) (Aa:Int):Option ((List (List Int))) :=
  bif (decide (Aa<(Ab.length:Int))) then Qac (sls Ab Aa (w64 (Aa+1))) λAi=>Qac (Qq4 fu r1 Ad Ai) λAh=>Qac (Qg4 8 Ac (([Ah.fvol]:List Int))) λAf=>k1 Af (w64 (Aa+1)) else Qac (Qhl fu Ac) λAe=>Qc2 fu r1 Ab Ag Ad Ae fu (([]:List (List Int))) 0
def Qg3 (fu:Nat)  (r1:Request) (Ac:List Int) (Ab:Typ×Bool) (Aa:(List Int)):Nat→List Int→Int→Option ((List (List Int)))
  | 0=>λ_ _=>none
  | n+1=>Qme fu r1 Ac Ab Aa (Qg3 fu r1 Ac Ab Aa n)
def Qsq (fu:Nat) (r1:Request) (Ac:List Int):Option ((List (List Int))) :=
  Qac (Qgi fu r1) λAb=>Qac (Qdk fu r1) λAa=>Qg3 fu r1 Ac Ab Aa fu (([]:List Int)) 0
def Qow (fu:Nat) (r1:Request) (Ad:List Int):Option ((List (List Int))) :=
  Qac (Qfs fu r1) λAc=>bif (Ac != 0) then some (([]:List (List Int))) else Qac (Qdk fu r1) λAb=>Qac (Qnh fu Ab Ad) λAa=>Qac (Qsq fu r1 Aa) λAe=>some (Ae)
def Qp4 (fu:Nat) (r1:Request) (Aa:List Int):Option ((List (List Int))) :=
  bif (r1.qY==1) then Qac (Qqg fu r1 Aa) λAc=>some (Ac) else Qac (Qow fu r1 Aa) λAb=>some (Ab)
def Qrq (fu:Nat) (r1:Request) (Ad:List Int) (t9:Typ) (Ab:(List Int))  : Option (Bool) :=
  Qac (Qq4 fu r1 Ab Ad) λAa=>Qac (Ql0 fu t9.fW t9.fH t9.fD) λAc=>bif (decide (Aa.fvol≤Ac)) then some (decide (Aa.fgram≤t9.fQ)) else some (false)
def Qr6 (fu:Nat) (Ab:Int→Option (Bool)) (Aa:Int)  : Option (Bool) :=
  Ab (w64 (Aa+1))
def Qsd (fu:Nat) (Ac:Int→Option (Bool)) (t9:Typ) (Ab:Int) (Ad:Item) (Aa:Bool):Option (Bool) :=
  bif (!Aa) then some (false) else Qac (Qq5 fu Ad t9) λAe=>bif (!Ae) then some (false) else Qr6 fu Ac Ab
def Qo3 (fu:Nat)  (r1:Request) (Ab:List Int) (t9:Typ) (Ac:(List Int)) (Af:Int→Option (Bool)) (Aa:Int):Option (Bool) :=
  bif (decide (Aa<(Ab.length:Int))) then Qac (ix Ab Aa) λAe=>Qac (Qmj fu r1 Ac Ae) λAd=>Qsd fu Af t9 Aa Ad.1 Ad.2 else Qrq fu r1 Ab t9 Ac
def Qgf (fu:Nat)  (r1:Request) (Ab:List Int) (t9:Typ) (Aa:(List Int)):Nat→Int→Option (Bool)
  | 0=>λ_=>none
  | n+1=>Qo3 fu r1 Ab t9 Aa (Qgf fu r1 Ab t9 Aa n)
def Qsz (fu:Nat) (r1:Request) (Ac:List Int) (t9:Typ):Option (Bool) :=
  Qac (Qfs fu r1) λAa=>bif (Aa != 0) then some (false) else Qac (Qdk fu r1) λAb=>Qgf fu r1 Ac t9 Ab fu 0
def Qef (fu:Nat) (k3:Typ→Bool→Int→Option (Typ×Bool)) (Ac:Int) (Ab:Typ) (Aa:Bool):Option (Typ×Bool) :=
  k3 Ab Aa (w64 (Ac+1))
def Qjv (fu:Nat)  (r1:Request) (Af:List Int) (k3:Typ→Bool→Int→Option (Typ×Bool)) (Ac:Typ) (Ad:Bool) (Aa:Int):Option (Typ×Bool) :=
  bif (decide (Aa<(r1.fR.length:Int))) then Qac (ix r1.fR Aa) λAb=>Qac (Qsz fu r1 Af Ab) λAe=>bif (!Ae) then Qef fu k3 Aa Ac Ad else bif (!Ad) then Qef fu k3 Aa Ab true else bif (decide (Ab.fK<Ac.fK)) then Qef fu k3 Aa Ab true else bif (Ab.fK==Ac.fK) then bif (decide (Ab.qQ<Ac.qQ)) then Qef fu k3 Aa Ab true else Qef fu k3 Aa Ac Ad else Qef fu k3 Aa Ac Ad else some (Ac,Ad)
def Qe6 (fu:Nat)  (r1:Request) (Aa:List Int):Nat→Typ→Bool→Int→Option (Typ×Bool)
  | 0=>λ_ _ _=>none
  | n+1=>Qjv fu r1 Aa (Qe6 fu r1 Aa n)
def Qot (fu:Nat) (r1:Request) (Aa:List Int):Option (Typ×Bool) :=
  Qe6 fu r1 Aa fu (⟨0,0,0,0,0,0,0⟩:Typ) false 0
def Qmr (fu:Nat) (Ac:List Carton→Int→Option ((List Carton))) (Aa:Int) (Ab:List Carton):Option ((List Carton)) :=
  Ac Ab (w64 (Aa+1))
def Qig (fu:Nat) (Aa:List Carton→Int→Option ((List Carton))) (Ab:Int) (Ac:List Carton):Option ((List Carton)) :=
  Aa Ac (w64 (Ab+1))
def Qjd (fu:Nat) (Ak:List Carton→Int→Option ((List Carton))) (Ai:Int) (Aj:(List (List Int))) (Ag:List Carton) (Ad:Int) (Al:Typ) (Ab:(List Int)) (Ao:List Int→Int→Option ((List Carton))) (Ac:List Int) (Aa:Int):Option ((List Carton)) :=
  bif (decide (Aa<(Ab.length:Int))) then Qac (ix Aj Ad) λAh=>Qac (ix Ab Aa) λAf=>Qac (ix Ah Af) λAe=>Qac (Qg4 8 Ac (([Ae]:List Int))) λAp=>Ao Ap (w64 (Aa+1)) else Qac (Qg4 40 Ag [(⟨Al.qQ,Ai,Ac⟩:Carton)]) λAm=>Qig fu Ak Ad Am
def Qfm (fu:Nat) (Ae:List Carton→Int→Option ((List Carton))) (Ac:Int) (Ad:(List (List Int))) (Ab:List Carton) (Ag:Int) (Af:Typ) (Aa:(List Int)):Nat→List Int→Int→Option ((List Carton))
  | 0=>λ_ _=>none
  | n+1=>Qjd fu Ae Ac Ad Ab Ag Af Aa (Qfm fu Ae Ac Ad Ab Ag Af Aa n)
def Qlt (fu:Nat) (Af:List Carton→Int→Option ((List Carton))) (Ae:Int) (Aa:(List (List Int))) (Ad:List Carton) (Ab:Int) (Ag:Typ):Option ((List Carton)) :=
  Qac (ix Aa Ab) λAh=>Qac (Qph fu Ah) λAc=>Qfm fu Af Ae Aa Ad Ab Ag Ac fu (([]:List Int)) 0
def Qjf (fu:Nat) (Ah:List Carton→Int→Option ((List Carton))) (r1:Request) (Ad:Int) (Aa:(List (List Int))) (Ag:List Carton→Int→Option ((List Carton))) (Ac:List Carton) (Ab:Int):Option ((List Carton)) :=
  bif (decide (Ab<(Aa.length:Int))) then Qac (ix Aa Ab) λAf=>Qac (Qot fu r1 Af) λAe=>Qlt fu Ag Ad Aa Ac Ab Ae.1 else Qmr fu Ah Ad Ac
def Qce (fu:Nat) (Ac:List Carton→Int→Option ((List Carton))) (r1:Request) (Aa:Int) (Ab:(List (List Int))):Nat→List Carton→Int→Option ((List Carton))
  | 0=>λ_ _=>none
  | n+1=>Qjf fu Ac r1 Aa Ab (Qce fu Ac r1 Aa Ab n)
def Qi0 (fu:Nat)  (r1:Request) (Af:(List (List Int))) (Ac:List Carton→Int→Option ((List Carton))) (Ab:List Carton) (Aa:Int):Option ((List Carton)) :=
  bif (decide (Aa<(Af.length:Int))) then Qac (Qqd fu r1 Aa) λAd=>Qac (Qp4 fu r1 Ad) λAe=>Qce fu Ac r1 Aa Ae fu Ab 0 else some (Ab)
def Qbi (fu:Nat)  (r1:Request) (Aa:(List (List Int))):Nat→List Carton→Int→Option ((List Carton))
  | 0=>λ_ _=>none
  | n+1=>Qi0 fu r1 Aa (Qbi fu r1 Aa n)
def Qm0 (fu:Nat) (r1:Request):Option ((List Carton)) :=
  Qac (Qif fu r1) λAa=>Qbi fu r1 Aa fu (([]:List Carton)) 0
def Qjq (fu:Nat)  (r1:Request) (Ac:Int) (k1:Int→Option (Typ×Bool)) (Aa:Int):Option (Typ×Bool) :=
  bif (decide (Aa<(r1.fR.length:Int))) then Qac (ix r1.fR Aa) λAb=>bif (Ab.qQ==Ac) then Qac (ix r1.fR Aa) λAd=>some (Ab,true) else k1 (w64 (Aa+1)) else some ((⟨0,0,0,0,0,0,0⟩:Typ),false)
def Qge (fu:Nat)  (r1:Request) (Aa:Int):Nat→Int→Option (Typ×Bool)
  | 0=>λ_=>none
  | n+1=>Qjq fu r1 Aa (Qge fu r1 Aa n)
def Qke (fu:Nat) (r1:Request) (Aa:Int):Option (Typ×Bool) :=
  Qge fu r1 Aa fu 0
def Qsx (fu:Nat) (r1:Request):Option ((List Int)) :=
  Qac (Qfs fu r1) λAa=>bif (Aa != 0) then some (([]:List Int)) else Qac (Qdk fu r1) λAb=>some (Ab)
def Qqv (fu:Nat) (k7:Int→Int→Option (Int)) (Aa:Int) (Ab:Int):Option (Int) :=
  k7 Ab (w64 (Aa+1))
def Qq1 (fu:Nat) (k7:Int→Int→Option (Int)) (Aa:Int) (Ac:Int) (Ab:Item):Option (Int) :=
  Qqv fu k7 Ac (w64 (Aa+Ab.fQ))
def Qns (fu:Nat)  (r1:Request) (Ab:List Int) (Af:(List Int)) (k7:Int→Int→Option (Int)) (Ac:Int) (Aa:Int):Option (Int) :=
  bif (decide (Aa<(Ab.length:Int))) then Qac (ix Ab Aa) λAd=>Qac (Qmj fu r1 Af Ad) λAe=>Qq1 fu k7 Ac Aa Ae.1 else some (Ac)
def Qfb (fu:Nat)  (r1:Request) (Ab:List Int) (Aa:(List Int)):Nat→Int→Int→Option (Int)
  | 0=>λ_ _=>none
  | n+1=>Qns fu r1 Ab Aa (Qfb fu r1 Ab Aa n)
def Qr5 (fu:Nat) (r1:Request) (Ab:List Int):Option (Int) :=
  Qac (Qsx fu r1) λAa=>Qfb fu r1 Ab Aa fu 0 0
def Qrw (fu:Nat) (r1:Request) (x5:Carton) (Aa:Typ×Bool)  : Option (Int) :=
  Qac (Qr5 fu r1 x5.fO) λAb=>some (w64 (Aa.1.ft+Ab))
def Qsw (fu:Nat) (r1:Request) (x5:Carton):Option (Int) :=
  Qac (Qke fu r1 x5.qJ) λAa=>Qac (Qfs fu r1) λAb=>bif (Ab != 0) then some (0) else bif (!Aa.2) then some (0) else Qrw fu r1 x5 Aa
def Qrm (fu:Nat) (r1:Request) (x5:Carton) (Aa:Typ×Bool)  : Option (Box) :=
  Qac (Qsw fu r1 x5) λAb=>some (⟨Aa.1.fW,Aa.1.fD,Aa.1.fH,Ab⟩:Box)
def Qsv (fu:Nat) (r1:Request) (x5:Carton):Option (Box) :=
  Qac (Qke fu r1 x5.qJ) λAa=>Qac (Qfs fu r1) λAb=>bif (Ab != 0) then some (⟨0,0,0,0⟩:Box) else bif (!Aa.2) then some (⟨0,0,0,0⟩:Box) else Qrm fu r1 x5 Aa
def Qpe (fu:Nat) (k3:Int→Option (Bool)) (Aa:Int)  : Option (Bool) :=
  k3 (w64 (Aa+1))
def Qlr (fu:Nat)  (p1:Pallet) (Ac:List Box) (k3:Int→Option (Bool)) (Ab:Int):Option (Bool) :=
  bif (decide (Ab<(Ac.length:Int))) then Qac (ix Ac Ab) λAa=>Qac (Qa1 fu Aa.fW 1 p1.fW) λAf=>bif (!Af) then some (false) else Qac (Qa1 fu Aa.fD 1 p1.fD) λAe=>bif (!Ae) then some (false) else Qac (Qa1 fu Aa.fH 1 p1.fH) λAd=>bif (!Ad) then some (false) else Qac (Qa1 fu Aa.fQ 1 p1.fQ) λAg=>bif (!Ag) then some (false) else Qpe fu k3 Ab else some (true)
def Qf1 (fu:Nat)  (p1:Pallet) (Aa:List Box):Nat→Int→Option (Bool)
  | 0=>λ_=>none
  | n+1=>Qlr fu p1 Aa (Qf1 fu p1 Aa n)
def Qnf (fu:Nat) (p1:Pallet) (Ab:List Box):Option (Bool) :=
  Qac (Qhj fu p1) λAa=>bif (!Aa) then some (false) else Qf1 fu p1 Ab fu 0
def Qk1 (fu:Nat) (a1:Int) (b2:Int):Option (Int) :=
  bif (decide (a1>b2)) then some (a1) else some (b2)
def Qhh (fu:Nat) (Aa:Shelf) (Ab:Int) (b6:Box):Option (Shelf) :=
  Qac (Qg4 8 (([]:List Int)) Aa.f9) λAe=>Qac (Qg4 8 Ae (([Ab]:List Int))) λAc=>Qac (Qk1 fu Aa.fD b6.fD) λAf=>Qac (Qk1 fu Aa.fH b6.fH) λAd=>some (⟨Ac,w64 (Aa.fW+b6.fW),Af,Ad,w64 (Aa.fQ+b6.fQ)⟩:Shelf)
def Qhf (fu:Nat) (k4:List Shelf→Int→Option ((List Shelf))) (Ab:Int) (Aa:List Shelf):Option ((List Shelf)) :=
  k4 Aa (w64 (Ab+1))
def Qli (fu:Nat)  (p1:Pallet) (Ah:List Box) (Ac:(List Int)) (k4:List Shelf→Int→Option ((List Shelf))) (Aa:List Shelf) (Ab:Int):Option ((List Shelf)) :=
  bif (decide (Ab<(Ac.length:Int))) then Qac (ix Ac Ab) λAe=>Qac (ix Ah Ae) λAd=>bif (decide ((Aa.length:Int)>0)) then Qac (ix Aa (w64 ((Aa.length:Int) - 1))) λAf=>bif (decide ((w64 (Af.fW+Ad.fW))≤p1.fW)) then Qac (ix Aa (w64 ((Aa.length:Int) - 1))) λAq=>bif (decide ((w64 (Af.fQ+Ad.fQ))≤p1.fQ)) then Qac (ix Aa (w64 ((Aa.length:Int) - 1))) λAv=>Qac (ix Ac Ab) λAt=>Qac (Qhh fu Af Ae Ad) λAm=>Qac (ix Aa (w64 ((Aa.length:Int) - 1))) λAp=>Qhf fu k4 Ab (Qhe Aa (w64 ((Aa.length:Int) - 1)) Am) else Qac (ix Ac Ab) λAu=>Qac (Qhh fu (⟨[],0,0,0,0⟩:Shelf) Ae Ad) λAg=>Qac (Qg4 56 Aa [Ag]) λAj=>Qhf fu k4 Ab Aj else Qac (ix Ac Ab) λAs=>Qac (Qhh fu (⟨[],0,0,0,0⟩:Shelf) Ae Ad) λAl=>Qac (Qg4 56 Aa [Al]) λAk=>Qhf fu k4 Ab Ak else Qac (ix Ac Ab) λAr=>Qac (Qhh fu (⟨[],0,0,0,0⟩:Shelf) Ae Ad) λAi=>Qac (Qg4 56 Aa [Ai]) λAo=>Qhf fu k4 Ab Ao else some (Aa)
def Qex (fu:Nat)  (p1:Pallet) (Ab:List Box) (Aa:(List Int)):Nat→List Shelf→Int→Option ((List Shelf))
  | 0=>λ_ _=>none
  | n+1=>Qli fu p1 Ab Aa (Qex fu p1 Ab Aa n)
def Qmk (fu:Nat)  (p1:Pallet) (Ab:List Box) (k1:List Int→Int→Option ((List Shelf))) (Ac:List Int) (Aa:Int):Option ((List Shelf)) :=
  bif (decide (Aa<(Ab.length:Int))) then Qac (ix Ab Aa) λAd=>Qac (Qg4 8 Ac (([Ad.fD]:List Int))) λAf=>k1 Af (w64 (Aa+1)) else Qac (Qhl fu Ac) λAe=>Qex fu p1 Ab Ae fu (([]:List Shelf)) 0
def Qg9 (fu:Nat)  (p1:Pallet) (Aa:List Box):Nat→List Int→Int→Option ((List Shelf))
  | 0=>λ_ _=>none
  | n+1=>Qmk fu p1 Aa (Qg9 fu p1 Aa n)
def Qpz (fu:Nat) (p1:Pallet) (Aa:List Box):Option ((List Shelf)) :=
  Qac (Qnf fu p1 Aa) λAb=>bif (!Ab) then some (([]:List Shelf)) else Qg9 fu p1 Aa fu (([]:List Int)) 0
def Qq8 (fu:Nat) (p1:Pallet) (d2:Int) (h3:Int) (Aa:Int):Option (Bool) :=
  Qac (Qa1 fu d2 1 p1.fD) λx8=>bif x8 then Qac (Qa1 fu h3 1 p1.fH) λAc=>bif Ac then Qac (Qa1 fu Aa 1 p1.fQ) λAb=>some (Ab) else some (false) else some (false)
def Qi5 (fu:Nat)  (p1:Pallet) (Ab:List Shelf) (k1:Int→Option (Bool)) (Aa:Int):Option (Bool) :=
  bif (decide (Aa<(Ab.length:Int))) then Qac (ix Ab Aa) λAc=>Qac (ix Ab Aa) λAe=>Qac (ix Ab Aa) λAf=>Qac (Qq8 fu p1 Ac.fD Ac.fH Ac.fQ) λAd=>bif (!Ad) then some (false) else k1 (w64 (Aa+1)) else some (true)
def Qfi (fu:Nat)  (p1:Pallet) (Aa:List Shelf):Nat→Int→Option (Bool)
  | 0=>λ_=>none
  | n+1=>Qi5 fu p1 Aa (Qfi fu p1 Aa n)
def Qm8 (fu:Nat) (p1:Pallet) (Ab:List Shelf):Option (Bool) :=
  Qac (Qhj fu p1) λAa=>bif (!Aa) then some (false) else Qfi fu p1 Ab fu 0
def Qnp (fu:Nat) (k7:List Layer→Int→Option ((List Layer))) (Aa:Int) (Ab:List Layer):Option ((List Layer)) :=
  k7 Ab (w64 (Aa+1))
def Qdn (fu:Nat) (k7:List Layer→Int→Option ((List Layer))) (Ae:Int) (Ab:Shelf) (Ac:List Layer) (Ad:Int):Option ((List Layer)) :=
  Qac (ix Ac (w64 (Ad - 1))) λAa=>Qac (Qg4 8 (([]:List Int)) Aa.fE) λAg=>Qac (Qg4 8 Ag (([Ae]:List Int))) λAf=>Qac (Qk1 fu Aa.fH Ab.fH) λAh=>Qac (ix Ac (w64 (Ad - 1))) λAi=>Qnp fu k7 Ae (Qhe Ac (w64 (Ad - 1)) (⟨Af,w64 (Aa.fD+Ab.fD),Ah,w64 (Aa.fQ+Ab.fQ)⟩:Layer))
def Qj6 (fu:Nat)  (p1:Pallet) (Ad:List Shelf) (k7:List Layer→Int→Option ((List Layer))) (Aa:List Layer) (Ac:Int):Option ((List Layer)) :=
  bif (decide (Ac<(Ad.length:Int))) then Qac (ix Ad Ac) λAb=>bif ((Aa.length:Int)==0) then Qac (Qg4 48 Aa [(⟨[],0,0,0⟩:Layer)]) λAg=>Qdn fu k7 Ac Ab Ag (w64 ((Aa.length:Int)+1)) else Qac (ix Aa (w64 ((Aa.length:Int) - 1))) λAe=>bif (decide ((w64 (Ae.fD+Ab.fD))>p1.fD)) then Qac (Qg4 48 Aa [(⟨[],0,0,0⟩:Layer)]) λAh=>Qdn fu k7 Ac Ab Ah (w64 ((Aa.length:Int)+1)) else Qac (ix Aa (w64 ((Aa.length:Int) - 1))) λAi=>bif (decide ((w64 (Ae.fQ+Ab.fQ))>p1.fQ)) then Qac (Qg4 48 Aa [(⟨[],0,0,0⟩:Layer)]) λAf=>Qdn fu k7 Ac Ab Af (w64 ((Aa.length:Int)+1)) else Qdn fu k7 Ac Ab Aa (Aa.length:Int) else some (Aa)
def Qbs (fu:Nat)  (p1:Pallet) (Aa:List Shelf):Nat→List Layer→Int→Option ((List Layer))
  | 0=>λ_ _=>none
  | n+1=>Qj6 fu p1 Aa (Qbs fu p1 Aa n)
def Qov (fu:Nat) (p1:Pallet) (Aa:List Shelf):Option ((List Layer)) :=
  Qac (Qm8 fu p1 Aa) λAb=>bif (!Ab) then some (([]:List Layer)) else Qbs fu p1 Aa fu (([]:List Layer)) 0
def Qjz (fu:Nat)  (p1:Pallet) (Ab:List Layer) (k1:Int→Option (Bool)) (Aa:Int):Option (Bool) :=
  bif (decide (Aa<(Ab.length:Int))) then Qac (ix Ab Aa) λAc=>Qac (ix Ab Aa) λAe=>Qac (ix Ab Aa) λAf=>Qac (Qq8 fu p1 Ac.fD Ac.fH Ac.fQ) λAd=>bif (!Ad) then some (false) else k1 (w64 (Aa+1)) else some (true)
def Qgd (fu:Nat)  (p1:Pallet) (Aa:List Layer):Nat→Int→Option (Bool)
  | 0=>λ_=>none
  | n+1=>Qjz fu p1 Aa (Qgd fu p1 Aa n)
def Qoe (fu:Nat) (p1:Pallet) (Ab:List Layer):Option (Bool) :=
  Qac (Qhj fu p1) λAa=>bif (!Aa) then some (false) else Qgd fu p1 Ab fu 0
def Qo5 (fu:Nat) (k7:List Load→Int→Option ((List Load))) (Aa:Int) (Ab:List Load):Option ((List Load)) :=
  k7 Ab (w64 (Aa+1))
def Qd7 (fu:Nat) (k7:List Load→Int→Option ((List Load))) (Ad:Int) (Ae:Layer) (Aa:List Load) (Ac:Int):Option ((List Load)) :=
  Qac (ix Aa (w64 (Ac - 1))) λAb=>Qac (Qg4 8 (([]:List Int)) Ab.f8) λAf=>Qac (Qg4 8 Af (([Ad]:List Int))) λAg=>Qac (ix Aa (w64 (Ac - 1))) λAh=>Qo5 fu k7 Ad (Qhe Aa (w64 (Ac - 1)) (⟨Ag,w64 (Ab.fH+Ae.fH),w64 (Ab.fQ+Ae.fQ)⟩:Load))
def Qml (fu:Nat)  (p1:Pallet) (Ae:List Layer) (k7:List Load→Int→Option ((List Load))) (Aa:List Load) (Ab:Int):Option ((List Load)) :=
  bif (decide (Ab<(Ae.length:Int))) then Qac (ix Ae Ab) λAc=>bif ((Aa.length:Int)==0) then Qac (Qg4 40 Aa [(⟨[],0,0⟩:Load)]) λAh=>Qd7 fu k7 Ab Ac Ah (w64 ((Aa.length:Int)+1)) else Qac (ix Aa (w64 ((Aa.length:Int) - 1))) λAd=>bif (decide ((w64 (Ad.fH+Ac.fH))>p1.fH)) then Qac (Qg4 40 Aa [(⟨[],0,0⟩:Load)]) λAf=>Qd7 fu k7 Ab Ac Af (w64 ((Aa.length:Int)+1)) else Qac (ix Aa (w64 ((Aa.length:Int) - 1))) λAi=>bif (decide ((w64 (Ad.fQ+Ac.fQ))>p1.fQ)) then Qac (Qg4 40 Aa [(⟨[],0,0⟩:Load)]) λAg=>Qd7 fu k7 Ab Ac Ag (w64 ((Aa.length:Int)+1)) else Qd7 fu k7 Ab Ac Aa (Aa.length:Int) else some (Aa)
def Qb1 (fu:Nat)  (p1:Pallet) (Aa:List Layer):Nat→List Load→Int→Option ((List Load))
  | 0=>λ_ _=>none
  | n+1=>Qml fu p1 Aa (Qb1 fu p1 Aa n)
def Qp1 (fu:Nat) (p1:Pallet) (Aa:List Layer):Option ((List Load)) :=
  Qac (Qoe fu p1 Aa) λAb=>bif (!Ab) then some (([]:List Load)) else Qb1 fu p1 Aa fu (([]:List Load)) 0
def Qk6 (fu:Nat) (Ah:List Spot→Int→Int→Option ((List Spot))) (Aj:List Box) (Ag:Int) (Ai:Int) (Ae:Int) (Ak:Int) (Aa:Shelf) (Am:List Spot→Int→Int→Option ((List Spot))) (Ad:List Spot) (Af:Int) (Ab:Int):Option ((List Spot)) :=
  bif (decide (Ab<(Aa.f9.length:Int))) then Qac (ix Aa.f9 Ab) λAc=>Qac (ix Ad Ac) λAo=>Qac (ix Aa.f9 Ab) λAp=>Qac (ix Aj Ac) λAl=>Am (Qhe Ad Ac (⟨Ag,Af,Ae,Ai⟩:Spot)) (w64 (Af+Al.fW)) (w64 (Ab+1)) else Ah Ad (w64 (Ae+Aa.fD)) (w64 (Ak+1))
def Qhc (fu:Nat) (Ac:List Spot→Int→Int→Option ((List Spot))) (Ae:List Box) (Ab:Int) (Ad:Int) (Ag:Int) (Af:Int) (Aa:Shelf):Nat→List Spot→Int→Int→Option ((List Spot))
  | 0=>λ_ _ _=>none
  | n+1=>Qk6 fu Ac Ae Ab Ad Ag Af Aa (Qhc fu Ac Ae Ab Ad Ag Af Aa n)
def Qlp (fu:Nat) (Ah:List Spot→Int→Int→Option ((List Spot))) (Aj:List Box) (Ak:(List Shelf)) (Af:Int) (Ac:Int) (Ag:Int) (Aa:Layer) (Ai:List Spot→Int→Int→Option ((List Spot))) (Ad:List Spot) (Am:Int) (Ab:Int):Option ((List Spot)) :=
  bif (decide (Ab<(Aa.fE.length:Int))) then Qac (ix Aa.fE Ab) λAl=>Qac (ix Ak Al) λAe=>Qhc fu Ai Aj Af Ac Am Ab Ae fu Ad 0 0 else Ah Ad (w64 (Ac+Aa.fH)) (w64 (Ag+1))
def Qd0 (fu:Nat) (Ac:List Spot→Int→Int→Option ((List Spot))) (Ag:List Box) (Af:(List Shelf)) (Aa:Int) (Ad:Int) (Ab:Int) (Ae:Layer):Nat→List Spot→Int→Int→Option ((List Spot))
  | 0=>λ_ _ _=>none
  | n+1=>Qlp fu Ac Ag Af Aa Ad Ab Ae (Qd0 fu Ac Ag Af Aa Ad Ab Ae n)
def Qk7 (fu:Nat) (Am:List Spot→Int→Option ((List Spot))) (Ak:List Box) (Al:(List Shelf)) (Af:(List Layer)) (Ad:(List Load)) (Aa:Int) (Ah:List Spot→Int→Int→Option ((List Spot))) (Ae:List Spot) (Ai:Int) (Ab:Int):Option ((List Spot)) :=
  Qac (ix Ad Aa) λAc=>bif (decide (Ab<(Ac.f8.length:Int))) then Qac (ix Ad Aa) λAo=>Qac (ix Ac.f8 Ab) λAg=>Qac (ix Af Ag) λAj=>Qd0 fu Ah Ak Al Aa Ai Ab Aj fu Ae 0 0 else Am Ae (w64 (Aa+1))
def Qco (fu:Nat) (Af:List Spot→Int→Option ((List Spot))) (Ae:List Box) (Ad:(List Shelf)) (Aa:(List Layer)) (Ac:(List Load)) (Ab:Int):Nat→List Spot→Int→Int→Option ((List Spot))
  | 0=>λ_ _ _=>none
  | n+1=>Qk7 fu Af Ae Ad Aa Ac Ab (Qco fu Af Ae Ad Aa Ac Ab n)
def Qmi (fu:Nat)  (Af:List Box) (Ae:(List Shelf)) (Ad:(List Layer)) (Ab:(List Load)) (Ag:List Spot→Int→Option ((List Spot))) (Ac:List Spot) (Aa:Int):Option ((List Spot)) :=
  bif (decide (Aa<(Ab.length:Int))) then Qco fu Ag Af Ae Ad Ab Aa fu Ac 0 0 else some (Ac)
def Qbt (fu:Nat)  (Ac:List Box) (Aa:(List Shelf)) (Ad:(List Layer)) (Ab:(List Load)):Nat→List Spot→Int→Option ((List Spot))
  | 0=>λ_ _=>none
  | n+1=>Qmi fu Ac Aa Ad Ab (Qbt fu Ac Aa Ad Ab n)
def Qnc (fu:Nat) (p1:Pallet) (Aa:List Box):Option ((List Spot)) :=
  Qac (mk 32 (⟨(0:Int),(0:Int),(0:Int),(0:Int)⟩:Spot) (Aa.length:Int)) λAd=>Qac (Qnf fu p1 Aa) λAf=>bif (!Af) then some (([]:List Spot)) else Qac (Qpz fu p1 Aa) λAc=>Qac (Qov fu p1 Ac) λAb=>Qac (Qp1 fu p1 Ab) λAe=>Qbt fu Aa Ac Ab Ae fu Ad 0
def Qkx (fu:Nat) (k3:Int→Int→Option (Int)) (Ab:Int) (Aa:Int):Option (Int) :=
  k3 Aa (w64 (Ab+1))
def Qk4 (fu:Nat)  (Ab:List Spot) (k3:Int→Int→Option (Int)) (Ac:Int) (Aa:Int):Option (Int) :=
  bif (decide (Aa<(Ab.length:Int))) then Qac (ix Ab Aa) λAd=>Qac (Qa1 fu Ad.fJ 0 999999) λAf=>bif Af then Qac (ix Ab Aa) λAg=>Qac (Qk1 fu Ac (w64 (Ad.fJ+1))) λAe=>Qkx fu k3 Aa Ae else Qkx fu k3 Aa Ac else some (Ac)
def Qfx (fu:Nat)  (Aa:List Spot):Nat→Int→Int→Option (Int)
  | 0=>λ_ _=>none
  | n+1=>Qk4 fu Aa (Qfx fu Aa n)
def Qql (fu:Nat) (Aa:List Spot):Option (Int) :=
  Qfx fu Aa fu 0 0
def Qm5 (fu:Nat) (Ab:List Box→Int→Option (Plan×Bool)) (Aa:Int) (Ac:List Box):Option (Plan×Bool) :=
  Ab Ac (w64 (Aa+1))
def Qnu (fu:Nat) (Ah:List Spot→Int→Int→Option (Plan×Bool)) (Ae:Int) (Aj:Int) (Ab:(List Spot)) (Ai:List Spot→Int→Option (Plan×Bool)) (Ad:List Spot) (Ac:Int):Option (Plan×Bool) :=
  bif (decide (Ac<(Ab.length:Int))) then Qac (ix Ab Ac) λAa=>Qac (Qg4 32 Ad (([(⟨w64 (Aa.fJ+Ae),Aa.fX,Aa.fY,Aa.fZ⟩:Spot)]:List Spot))) λAg=>Ai Ag (w64 (Ac+1)) else Qac (Qql fu Ab) λAf=>Ah Ad (w64 (Ae+Af)) (w64 (Aj+1))
def Qgo (fu:Nat) (Ab:List Spot→Int→Int→Option (Plan×Bool)) (Aa:Int) (Ad:Int) (Ac:(List Spot)):Nat→List Spot→Int→Option (Plan×Bool)
  | 0=>λ_ _=>none
  | n+1=>Qnu fu Ab Aa Ad Ac (Qgo fu Ab Aa Ad Ac n)
def Qni (fu:Nat) (Al:List Spot→Int→Int→Option (Plan×Bool)) (r1:Request) (Ab:(List Carton)) (Ag:List Spot) (Ai:Int) (Af:Int) (Ad:List Box→Int→Option (Plan×Bool)) (Ac:List Box) (Aa:Int):Option (Plan×Bool) :=
  bif (decide (Aa<(Ab.length:Int))) then Qac (ix Ab Aa) λAe=>bif (Ae.fM==Af) then Qac (ix Ab Aa) λAm=>Qac (Qsv fu r1 Ae) λAj=>Qac (Qg4 32 Ac (([Aj]:List Box))) λAk=>Qm5 fu Ad Aa Ak else Qm5 fu Ad Aa Ac else Qac (Qnc fu r1.fJ Ac) λAh=>Qgo fu Al Ai Af Ah fu Ag 0
def Qgl (fu:Nat) (Ad:List Spot→Int→Int→Option (Plan×Bool)) (r1:Request) (Ac:(List Carton)) (Aa:List Spot) (Ab:Int) (Ae:Int):Nat→List Box→Int→Option (Plan×Bool)
  | 0=>λ_ _=>none
  | n+1=>Qni fu Ad r1 Ac Aa Ab Ae (Qgl fu Ad r1 Ac Aa Ab Ae n)
def Qn1 (fu:Nat)  (r1:Request) (Ab:(List Carton)) (Ad:(List (List Int))) (Af:List Spot→Int→Int→Option (Plan×Bool)) (Aa:List Spot) (Ae:Int) (Ac:Int):Option (Plan×Bool) :=
  bif (decide (Ac<(Ad.length:Int))) then Qgl fu Af r1 Ab Aa Ae Ac fu (([]:List Box)) 0 else some ((⟨Ab,Aa⟩:Plan),true)
def Qcq (fu:Nat)  (r1:Request) (Ab:(List Carton)) (Aa:(List (List Int))):Nat→List Spot→Int→Int→Option (Plan×Bool)
  | 0=>λ_ _ _=>none
  | n+1=>Qn1 fu r1 Ab Aa (Qcq fu r1 Ab Aa n)
def Qrv (fu:Nat) (r1:Request):Option (Plan×Bool) :=
  Qac (Qfs fu r1) λAa=>bif (Aa != 0) then some ((⟨[],[]⟩:Plan),false) else Qac (Qm0 fu r1) λAc=>Qac (Qif fu r1) λAb=>Qcq fu r1 Ac Ab fu (([]:List Spot)) 0 0
def Qhz (fu:Nat) (k3:Int→Option (Bool)) (Aa:Int)  : Option (Bool) :=
  k3 (w64 (Aa+1))
def Qip (fu:Nat)  (Ab:List Int) (k3:Int→Option (Bool)) (Aa:Int):Option (Bool) :=
  bif (decide (Aa<(Ab.length:Int))) then Qac (ix Ab Aa) λAc=>Qac (Qbk fu Ac 0 999) λAe=>bif (!Ae) then some (false) else bif (decide (Aa>0)) then Qac (ix Ab (w64 (Aa - 1))) λAd=>bif (decide (Ad≥Ac)) then some (false) else Qhz fu k3 Aa else Qhz fu k3 Aa else some (decide ((Ab.length:Int)≤100))
def Qd8 (fu:Nat)  (Aa:List Int):Nat→Int→Option (Bool)
  | 0=>λ_=>none
  | n+1=>Qip fu Aa (Qd8 fu Aa n)
def Qkv (fu:Nat) (Aa:List Int):Option (Bool) :=
  Qd8 fu Aa fu 0
def Qck (fu:Nat) (n1:Int):Option (Bool) :=
  Qac (Qbk fu n1 0 2000) λx2=>some (x2)
def Qq2 (fu:Nat) (k4:Int→Option (Bool)) (Aa:Int)  : Option (Bool) :=
  k4 (w64 (Aa+1))
def Qnx (fu:Nat)  (x1:Plan) (k4:Int→Option (Bool)) (Ab:Int):Option (Bool) :=
  bif (decide (Ab<(x1.fV.length:Int))) then Qac (ix x1.fV Ab) λAc=>Qac (ix x1.fF Ab) λAa=>Qac (Qbk fu Ac.qJ 0 999) λAd=>bif (!Ad) then some (false) else Qac (Qbk fu Ac.fM 0 3) λAi=>bif (!Ai) then some (false) else Qac (Qkv fu Ac.fO) λAf=>bif (!Af) then some (false) else Qac (Qck fu Aa.fJ) λAh=>bif (!Ah) then some (false) else Qac (Qck fu Aa.fX) λAe=>bif (!Ae) then some (false) else Qac (Qck fu Aa.fY) λAg=>bif (!Ag) then some (false) else Qac (Qck fu Aa.fZ) λAj=>bif (!Aj) then some (false) else Qq2 fu k4 Ab else some (true)
def Qgr (fu:Nat)  (x1:Plan):Nat→Int→Option (Bool)
  | 0=>λ_=>none
  | n+1=>Qnx fu x1 (Qgr fu x1 n)
def Qq0 (fu:Nat) (x1:Plan)  : Option (Bool) :=
  Qgr fu x1 fu 0
def Qla (fu:Nat) (x1:Plan):Option (Bool) :=
  bif ((x1.fF.length:Int) != (x1.fV.length:Int)) then some (false) else bif (decide ((x1.fV.length:Int)>100)) then some (false) else Qq0 fu x1
def Qb2 (fu:Nat)  (Ab:List Carton) (f5:Carton→Option Bool) (k1:Int→Option (Int)) (Aa:Int):Option (Int) :=
  bif (decide (Aa<(Ab.length:Int))) then Qac (ix Ab Aa) λAd=>Qac (f5 Ad) λAc=>bif Ac then some (Aa) else k1 (w64 (Aa+1)) else some ((-1))
def Qa0 (fu:Nat)  (Aa:List Carton) (f5:Carton→Option Bool):Nat→Int→Option (Int)
  | 0=>λ_=>none
  | n+1=>Qb2 fu Aa f5 (Qa0 fu Aa f5 n)
def Qbx (fu:Nat) (Aa:List Carton) (f5:Carton→Option Bool):Option (Int) :=
  Qa0 fu Aa f5 fu 0
def Qbm (fu:Nat) (Aa:List Carton) (f5:Carton→Option Bool):Option (Bool) :=
  Qac (Qbx fu Aa f5) λAb=>some (decide (Ab≥0))
def Qsn (fu:Nat) (c1:Carton):Option (Bool) :=
  some ((c1.fO.length:Int)==0)
def Qj7 (fu:Nat)  (x1:Plan) (k1:List Int→Int→Option ((List Int))) (Ab:List Int) (Aa:Int):Option ((List Int)) :=
  bif (decide (Aa<(x1.fV.length:Int))) then Qac (ix x1.fV Aa) λAd=>Qac (Qg4 8 Ab Ad.fO) λAc=>k1 Ac (w64 (Aa+1)) else some (Ab)
def Qgc (fu:Nat)  (x1:Plan):Nat→List Int→Int→Option ((List Int))
  | 0=>λ_ _=>none
  | n+1=>Qj7 fu x1 (Qgc fu x1 n)
def Qkh (fu:Nat) (x1:Plan):Option ((List Int)) :=
  Qgc fu x1 fu (([]:List Int)) 0
def Qf8 (fu:Nat)  (Ab:List Int) (Ae:List Int) (k1:Int→Option (Bool)) (Aa:Int):Option (Bool) :=
  bif (decide (Aa<(Ab.length:Int))) then Qac (ix Ab Aa) λAd=>Qac (ix Ae Aa) λAc=>bif (Ad != Ac) then some (false) else k1 (w64 (Aa+1)) else some (true)
def Qda (fu:Nat)  (Aa:List Int) (Ab:List Int):Nat→Int→Option (Bool)
  | 0=>λ_=>none
  | n+1=>Qf8 fu Aa Ab (Qda fu Aa Ab n)
def Qg1 (fu:Nat) (Aa:List Int) (Ab:List Int):Option (Bool) :=
  bif ((Aa.length:Int) != (Ab.length:Int)) then some (false) else Qda fu Aa Ab fu 0
def Qjo (fu:Nat) (y1:Item) (x2:Carton) (x8:List (List Int)):Option (Bool) :=
  bif (decide (x2.fM≥(x8.length:Int))) then some (true) else Qac (ix x8 x2.fM) λAb=>Qac (Qc8 fu Ab y1.fL) λAa=>some (!Aa)
def Qix (fu:Nat) (k3:Int→Option (Int)) (Aa:Int)  : Option (Int) :=
  k3 (w64 (Aa+1))
def Qh0 (fu:Nat)  (r1:Request) (x5:Plan) (k6:Int→Option (Int)) (Aa:Int):Option (Int) :=
  bif (decide (Aa<(x5.fV.length:Int))) then Qac (ix x5.fV Aa) λAb=>Qac (Qki fu r1 Ab.fO) λAc=>bif (Ac.1.qQ != Ab.qJ) then some (6) else k6 (w64 (Aa+1)) else some (0)
def Qek (fu:Nat)  (r1:Request) (x5:Plan):Nat→Int→Option (Int)
  | 0=>λ_=>none
  | n+1=>Qh0 fu r1 x5 (Qek fu r1 x5 n)
def Qh2 (fu:Nat)  (r1:Request) (x5:Plan) (Af:(List (List Int))) (k5:Int→Option (Int)) (Aa:Int):Option (Int) :=
  bif (decide (Aa<(x5.fV.length:Int))) then Qac (ix x5.fV Aa) λAb=>Qac (Qh8 fu r1 Ab.fO) λAd=>Qac (Qaw fu Ad (λAc=>Qjo fu Ac Ab Af)) λAe=>bif Ae then some (5) else k5 (w64 (Aa+1)) else Qek fu r1 x5 fu 0
def Qel (fu:Nat)  (r1:Request) (x5:Plan) (Aa:(List (List Int))):Nat→Int→Option (Int)
  | 0=>λ_=>none
  | n+1=>Qh2 fu r1 x5 Aa (Qel fu r1 x5 Aa n)
def Qh3 (fu:Nat)  (r1:Request) (x5:Plan) (k3:Int→Option (Int)) (Aa:Int):Option (Int) :=
  bif (decide (Aa<(x5.fV.length:Int))) then Qac (ix x5.fV Aa) λAc=>Qac (Qhk fu r1 Ac.qJ) λAb=>bif (!Ab.2) then some (4) else Qac (Qra fu r1 Ac.fO Ab.1) λAd=>bif (!Ad) then some (4) else Qix fu k3 Aa else Qac (Qhp fu r1) λAe=>Qel fu r1 x5 Ae fu 0
def Qdp (fu:Nat)  (r1:Request) (x5:Plan):Nat→Int→Option (Int)
  | 0=>λ_=>none
  | n+1=>Qh3 fu r1 x5 (Qdp fu r1 x5 n)
def Qjh (fu:Nat) (r1:Request) (x5:Plan):Option (Int) :=
  Qdp fu r1 x5 fu 0
def Qqn (fu:Nat) (p1:Pallet) (b2:Box) (Aa:Spot)  : Option (Bool) :=
  bif (decide ((w64 (Aa.fX+b2.fW))≤p1.fW)) then bif (decide ((w64 (Aa.fY+b2.fD))≤p1.fD)) then some (decide ((w64 (Aa.fZ+b2.fH))≤p1.fH)) else some (false) else some (false)
def Qrg (fu:Nat) (p1:Pallet) (b2:Box) (Aa:Spot):Option (Bool) :=
  Qac (Qck fu Aa.fX) λAd=>bif (!Ad) then some (false) else Qac (Qck fu Aa.fY) λAg=>bif (!Ag) then some (false) else Qac (Qck fu Aa.fZ) λAf=>bif (!Af) then some (false) else Qac (Qc3 fu b2.fW) λAb=>bif (!Ab) then some (false) else Qac (Qc3 fu b2.fD) λAc=>bif (!Ac) then some (false) else Qac (Qc3 fu b2.fH) λAe=>bif (!Ae) then some (false) else Qqn fu p1 b2 Aa
def Qpj (fu:Nat) (b1:Box) (Aa:Spot):Option (Bool) :=
  Qac (Qck fu b1.fW) λAc=>bif Ac then Qac (Qck fu b1.fD) λAd=>bif Ad then Qac (Qck fu b1.fH) λAg=>bif Ag then Qac (Qck fu Aa.fX) λAf=>bif Af then Qac (Qck fu Aa.fY) λAe=>bif Ae then Qac (Qck fu Aa.fZ) λAb=>some (Ab) else some (false) else some (false) else some (false) else some (false) else some (false)
def Qoi (fu:Nat) (a1:Int) (Aa:Int) (b3:Int) (Ab:Int):Option (Bool) :=
  bif (decide (a1<(w64 (b3+Ab)))) then some (decide (b3<(w64 (a1+Aa)))) else some (false)
def Qpc (fu:Nat) (a1:Box) (Aa:Spot) (b3:Box) (t4:Spot)  : Option (Bool) :=
  Qac (Qoi fu Aa.fX a1.fW t4.fX b3.fW) λAd=>bif Ad then Qac (Qoi fu Aa.fY a1.fD t4.fY b3.fD) λAb=>bif Ab then Qac (Qoi fu Aa.fZ a1.fH t4.fZ b3.fH) λAc=>some (Ac) else some (false) else some (false)
def Qqm (fu:Nat) (a1:Box) (Aa:Spot) (b3:Box) (t4:Spot):Option (Bool) :=
  Qac (Qpj fu a1 Aa) λAc=>bif (!Ac) then some (false) else Qac (Qpj fu b3 t4) λAb=>bif (!Ab) then some (false) else bif (Aa.fJ != t4.fJ) then some (false) else Qpc fu a1 Aa b3 t4
def Qiz (fu:Nat) (k3:List Int→Int→Option ((List Int))) (Ab:Int) (Aa:List Int):Option ((List Int)) :=
  k3 Aa (w64 (Ab+1))
def Qj2 (fu:Nat)  (x1:Plan) (Ad:Int) (k3:List Int→Int→Option ((List Int))) (Ab:List Int) (Aa:Int):Option ((List Int)) :=
  bif (decide (Aa<(x1.fF.length:Int))) then Qac (ix x1.fF Aa) λAe=>bif (Ae.fJ==Ad) then Qac (Qg4 8 Ab (([Aa]:List Int))) λAc=>Qiz fu k3 Aa Ac else Qiz fu k3 Aa Ab else some (Ab)
def Qe8 (fu:Nat)  (x1:Plan) (Aa:Int):Nat→List Int→Int→Option ((List Int))
  | 0=>λ_ _=>none
  | n+1=>Qj2 fu x1 Aa (Qe8 fu x1 Aa n)
def Qj9 (fu:Nat) (x1:Plan) (Aa:Int):Option ((List Int)) :=
  bif ((x1.fF.length:Int) != (x1.fV.length:Int)) then some (([]:List Int)) else Qe8 fu x1 Aa fu (([]:List Int)) 0
def Qin (fu:Nat)  (r1:Request) (x5:Plan) (Ab:(List Int)) (k1:Int→Int→Option (Int)) (Ac:Int) (Aa:Int):Option (Int) :=
  bif (decide (Aa<(Ab.length:Int))) then Qac (ix Ab Aa) λAf=>Qac (ix x5.fV Af) λAd=>Qac (Qrc fu r1 Ad) λAe=>k1 (w64 (Ac+Ae)) (w64 (Aa+1)) else some (Ac)
def Qe0 (fu:Nat)  (r1:Request) (x5:Plan) (Aa:(List Int)):Nat→Int→Int→Option (Int)
  | 0=>λ_ _=>none
  | n+1=>Qin fu r1 x5 Aa (Qe0 fu r1 x5 Aa n)
def Qkd (fu:Nat) (r1:Request) (x5:Plan) (Ab:Int):Option (Int) :=
  Qac (Qj9 fu x5 Ab) λAa=>Qe0 fu r1 x5 Aa fu 0 0
def Qn6 (fu:Nat) (i1:Int) (x2:Plan) (Ab:List Int):Option (Bool) :=
  Qac (ix x2.fV i1) λAd=>Qac (ix Ab 0) λAc=>Qac (ix x2.fV Ac) λAa=>some (Ad.fM != Aa.fM)
def Qi6 (fu:Nat) (k4:Int→Option (Int)) (x5:Plan) (Ac:List Box) (Ab:Int) (k5:Int→Option (Int)) (Aa:Int):Option (Int) :=
  bif (decide (Aa<Ab)) then Qac (ix Ac Ab) λAe=>Qac (ix x5.fF Ab) λAf=>Qac (ix Ac Aa) λAg=>Qac (ix x5.fF Aa) λAh=>Qac (Qqm fu Ae Af Ag Ah) λAd=>bif Ad then some (8) else k5 (w64 (Aa+1)) else k4 (w64 (Ab+1))
def Qfg (fu:Nat) (k4:Int→Option (Int)) (x5:Plan) (Aa:List Box) (Ab:Int):Nat→Int→Option (Int)
  | 0=>λ_=>none
  | n+1=>Qi6 fu k4 x5 Aa Ab (Qfg fu k4 x5 Aa Ab n)
def Qle (fu:Nat) (Aa:Int→Option (Int)) (Ab:Int)  : Option (Int) :=
  Aa (w64 (Ab+1))
def Qk3 (fu:Nat) (Ae:Int→Option (Int)) (x5:Plan) (Ac:Int) (Aa:(List Int))  : Option (Int) :=
  Qac (Qcz fu Aa (λAb=>Qn6 fu Ab x5 Aa)) λAd=>bif Ad then some (9) else Qle fu Ae Ac
def Qi7 (fu:Nat)  (r1:Request) (x5:Plan) (Ac:Int) (Ad:Int→Option (Int)) (Aa:Int):Option (Int) :=
  bif (decide (Aa<Ac)) then Qac (Qj9 fu x5 Aa) λAb=>bif ((Ab.length:Int)==0) then some (9) else Qac (Qkd fu r1 x5 Aa) λAe=>bif (decide (Ae>r1.fJ.fQ)) then some (9) else Qk3 fu Ad x5 Aa Ab else some (0)
def Qdr (fu:Nat)  (r1:Request) (x5:Plan) (Aa:Int):Nat→Int→Option (Int)
  | 0=>λ_=>none
  | n+1=>Qi7 fu r1 x5 Aa (Qdr fu r1 x5 Aa n)
def Qi8 (fu:Nat)  (r1:Request) (x5:Plan) (Aa:List Box) (k4:Int→Option (Int)) (Ab:Int):Option (Int) :=
  bif (decide (Ab<(Aa.length:Int))) then Qfg fu k4 x5 Aa Ab fu 0 else Qac (Qjj fu x5.fF) λAc=>Qdr fu r1 x5 Ac fu 0
def Qds (fu:Nat)  (r1:Request) (x5:Plan) (Aa:List Box):Nat→Int→Option (Int)
  | 0=>λ_=>none
  | n+1=>Qi8 fu r1 x5 Aa (Qds fu r1 x5 Aa n)
def Qi9 (fu:Nat)  (r1:Request) (x5:Plan) (k1:List Box→Int→Option (Int)) (Ab:List Box) (Aa:Int):Option (Int) :=
  bif (decide (Aa<(x5.fV.length:Int))) then Qac (ix x5.fV Aa) λAe=>Qac (Qq6 fu r1 Ae) λAc=>Qac (ix x5.fF Aa) λAd=>Qac (Qrg fu r1.fJ Ac Ad) λAg=>bif (!Ag) then some (7) else Qac (Qg4 32 Ab (([Ac]:List Box))) λAf=>k1 Af (w64 (Aa+1)) else Qds fu r1 x5 Ab fu 0
def Qfk (fu:Nat)  (r1:Request) (x5:Plan):Nat→List Box→Int→Option (Int)
  | 0=>λ_ _=>none
  | n+1=>Qi9 fu r1 x5 (Qfk fu r1 x5 n)
def Qm1 (fu:Nat) (r1:Request) (x5:Plan):Option (Int) :=
  Qfk fu r1 x5 fu (([]:List Box)) 0
def Qrf (fu:Nat) (r1:Request) (x5:Plan)  : Option (Int) :=
  Qac (Qkh fu x5) λAg=>Qac (Qcl fu Ag) λAc=>Qac (Qi1 fu r1) λAe=>Qac (Qld fu (Ae.length:Int)) λAf=>Qac (Qg1 fu Ac Af) λAd=>bif (!Ad) then some (3) else Qac (Qjh fu r1 x5) λAa=>bif (Aa != 0) then some (Aa) else Qac (Qm1 fu r1 x5) λAb=>some (Ab)
def Qol (fu:Nat) (r1:Request) (x5:Plan):Option (Int) :=
  Qac (Qfz fu r1) λAa=>bif (!Aa) then some (1) else Qac (Qla fu x5) λAd=>bif (!Ad) then some (2) else Qac (Qbm fu x5.fV (λAb=>Qsn fu Ab)) λAc=>bif Ac then some (2) else Qrf fu r1 x5
def Qos (fu:Nat) (r1:Request) (x5:Plan):Option (Bool) :=
  Qac (Qol fu r1 x5) λAa=>some (Aa==0)
def Qro (fu:Nat) (u1:Int) (x2:List Int):Option (Bool) :=
  Qac (Qc8 fu x2 u1) λx8=>some (x8)
def Qts (fu:Nat) (r1:Request) (x5:Plan):Option ((List Int)) :=
  Qac (Qkh fu x5) λAe=>Qac (Qi1 fu r1) λAb=>Qac (Qld fu (Ab.length:Int)) λAa=>Qac (Qdh fu Aa (λAd=>Qro fu Ad Ae)) λAc=>some (Ac)
def Qt9 (fu:Nat) (x1:Int):Option ByteArray:=Jcv x1
def Qr3 (fu:Nat) (n1:Int):Option (ByteArray) :=
  Qac (Qt9 fu n1) λx2=>some (x2)
def Qjy (fu:Nat)  (Ad:List Int) (k1:ByteArray→Int→Option (ByteArray×Bool)) (Ab:ByteArray) (Aa:Int):Option (ByteArray×Bool) :=
  bif (decide (Aa<(Ad.length:Int))) then Qac (ix Ad Aa) λAc=>Qac (Qbk fu Ac 0 999999) λAh=>bif (!Ah) then some ((⟨#[]⟩:ByteArray),false) else Qac (Qr3 fu Ac) λAf=>Qac (Q1g (⟨#[32]⟩:ByteArray) Af) λAg=>Qac (Q1g Ab Ag) λAe=>k1 Ae (w64 (Aa+1)) else Qac (Q1g Ab (⟨#[10]⟩:ByteArray)) λAi=>some (Ai,true)
def Qe4 (fu:Nat)  (Aa:List Int):Nat→ByteArray→Int→Option (ByteArray×Bool)
  | 0=>λ_ _=>none
  | n+1=>Qjy fu Aa (Qe4 fu Aa n)
def Qkj (fu:Nat) (Aa:ByteArray) (Ab:List Int):Option (ByteArray×Bool) :=
  Qe4 fu Ab fu Aa 0
def Qj0 (fu:Nat)  (x1:Plan) (k1:ByteArray→Int→Option (ByteArray)) (Ad:ByteArray) (Aa:Int):Option (ByteArray) :=
  bif (decide (Aa<(x1.fV.length:Int))) then Qac (ix x1.fV Aa) λAc=>Qac (ix x1.fF Aa) λAb=>Qac (Qg4 8 (([Ac.qJ,Ac.fM,Ab.fJ,Ab.fX,Ab.fY,Ab.fZ]:List Int)) Ac.fO) λAf=>Qac (Qkj fu (⟨#[99,97,114,116,111,110]⟩:ByteArray) Af) λAg=>Qac (Q1g Ad Ag.1) λAe=>k1 Ae (w64 (Aa+1)) else some (Ad)
def Qec (fu:Nat)  (x1:Plan):Nat→ByteArray→Int→Option (ByteArray)
  | 0=>λ_ _=>none
  | n+1=>Qj0 fu x1 (Qec fu x1 n)
def Qoy (fu:Nat) (x1:Plan):Option (ByteArray) :=
  Qac (Qla fu x1) λAa=>bif (!Aa) then some (⟨#[]⟩:ByteArray) else Qec fu x1 fu (⟨#[]⟩:ByteArray) 0
def Qii (fu:Nat) (k4:Int→Option (Bool)) (Aa:Int)  : Option (Bool) :=
  k4 (w64 (Aa+1))
def Qjg (fu:Nat)  (x1:Carton) (k4:Int→Option (Bool)) (Aa:Int):Option (Bool) :=
  bif (decide (Aa<(x1.fO.length:Int))) then Qac (ix x1.fO Aa) λAb=>Qac (Qa1 fu Ab 0 999) λAc=>bif (!Ac) then some (false) else bif (decide (Aa>0)) then Qac (ix x1.fO Aa) λAe=>Qac (ix x1.fO (w64 (Aa - 1))) λAd=>bif (decide (Ab≤Ad)) then some (false) else Qii fu k4 Aa else Qii fu k4 Aa else some (true)
def Qej (fu:Nat)  (x1:Carton):Nat→Int→Option (Bool)
  | 0=>λ_=>none
  | n+1=>Qjg fu x1 (Qej fu x1 n)
def Qk2 (fu:Nat) (x1:Carton)  : Option (Bool) :=
  Qej fu x1 fu 0
def Qm6 (fu:Nat) (x1:Carton):Option (Bool) :=
  Qac (Qop fu x1.qJ) λAa=>bif (!Aa) then some (false) else Qac (Qa1 fu x1.fM 0 3) λAb=>bif (!Ab) then some (false) else bif (decide ((x1.fO.length:Int)>100)) then some (false) else Qk2 fu x1
def Qqr (fu:Nat) (k4:Int→Option (Bool)) (Aa:Int)  : Option (Bool) :=
  k4 (w64 (Aa+1))
def Qnm (fu:Nat)  (x1:Plan) (k4:Int→Option (Bool)) (Aa:Int):Option (Bool) :=
  bif (decide (Aa<(x1.fV.length:Int))) then Qac (ix x1.fF Aa) λAb=>Qac (ix x1.fV Aa) λAg=>Qac (Qm6 fu Ag) λAc=>bif (!Ac) then some (false) else Qac (Qa1 fu Ab.fJ 0 2000) λAd=>bif (!Ad) then some (false) else Qac (Qa1 fu Ab.fX 0 2000) λAf=>bif (!Af) then some (false) else Qac (Qa1 fu Ab.fY 0 2000) λAh=>bif (!Ah) then some (false) else Qac (Qa1 fu Ab.fZ 0 2000) λAe=>bif (!Ae) then some (false) else Qqr fu k4 Aa else some (true)
def Qgp (fu:Nat)  (x1:Plan):Nat→Int→Option (Bool)
  | 0=>λ_=>none
  | n+1=>Qnm fu x1 (Qgp fu x1 n)
def Qqs (fu:Nat) (x1:Plan)  : Option (Bool) :=
  Qgp fu x1 fu 0
def Qrj (fu:Nat) (x1:Plan):Option (Bool) :=
  bif ((x1.fV.length:Int) != (x1.fF.length:Int)) then some (false) else bif (decide ((x1.fV.length:Int)>100)) then some (false) else Qqs fu x1
def Qm4 (fu:Nat) (k3:Int→ByteArray→Option (ByteArray)) (Ac:Int) (Ae:ByteArray) (Ad:Int):Option (ByteArray) :=
  Qac (Ji9 (([(⟨w8 (w64 (48+Ad))⟩:U8)]:List U8))) λAb=>Qac (Q1g Ab Ae) λAa=>k3 (w64 (Int.tdiv Ac 10)) Aa
def Qnn (fu:Nat)  (n1:Int) (k3:Int→ByteArray→Option (ByteArray)) (Aa:Int) (Ab:ByteArray):Option (ByteArray) :=
  bif (Aa != 0) then bif (decide ((Int.tmod Aa 10)<0)) then Qm4 fu k3 Aa Ab (w64 (0 - (Int.tmod Aa 10))) else Qm4 fu k3 Aa Ab (Int.tmod Aa 10) else bif (decide (n1<0)) then Qac (Q1g (⟨#[45]⟩:ByteArray) Ab) λAc=>some (Ac) else some (Ab)
def Qgm (fu:Nat)  (n1:Int):Nat→Int→ByteArray→Option (ByteArray)
  | 0=>λ_ _=>none
  | n+1=>Qnn fu n1 (Qgm fu n1 n)
def Qpb (fu:Nat) (n1:Int):Option (ByteArray) :=
  bif (n1==0) then some (⟨#[48]⟩:ByteArray) else Qgm fu n1 fu n1 (⟨#[]⟩:ByteArray)
def Qmd (fu:Nat)  (Ab:List Int) (k1:ByteArray→Int→Option (ByteArray)) (Ac:ByteArray) (Aa:Int):Option (ByteArray) :=
  bif (decide (Aa<(Ab.length:Int))) then Qac (Q1g Ac (⟨#[32]⟩:ByteArray)) λAe=>Qac (ix Ab Aa) λAd=>Qac (Qpb fu Ad) λAg=>Qac (Q1g Ae Ag) λAf=>k1 Af (w64 (Aa+1)) else some (Ac)
def Qeq (fu:Nat)  (Aa:List Int):Nat→ByteArray→Int→Option (ByteArray)
  | 0=>λ_ _=>none
  | n+1=>Qmd fu Aa (Qeq fu Aa n)
def Qpy (fu:Nat) (x1:Carton) (Aa:Spot):Option (ByteArray) :=
  Qac (Qg4 8 (([x1.qJ,x1.fM,Aa.fJ,Aa.fX,Aa.fY,Aa.fZ]:List Int)) x1.fO) λAb=>Qeq fu Ab fu (⟨#[99,97,114,116,111,110]⟩:ByteArray) 0
def Qjp (fu:Nat)  (x1:Plan) (k1:ByteArray→Int→Option (ByteArray)) (Ab:ByteArray) (Aa:Int):Option (ByteArray) :=
  bif (decide (Aa<(x1.fV.length:Int))) then Qac (ix x1.fV Aa) λAc=>Qac (ix x1.fF Aa) λAe=>Qac (Qpy fu Ac Ae) λAg=>Qac (Q1g Ab Ag) λAd=>Qac (Q1g Ad (⟨#[10]⟩:ByteArray)) λAf=>k1 Af (w64 (Aa+1)) else some (Ab)
def Qe2 (fu:Nat)  (x1:Plan):Nat→ByteArray→Int→Option (ByteArray)
  | 0=>λ_ _=>none
  | n+1=>Qjp fu x1 (Qe2 fu x1 n)
def Qom (fu:Nat) (x1:Plan):Option (ByteArray) :=
  Qac (Qrj fu x1) λAa=>bif (!Aa) then some (⟨#[]⟩:ByteArray) else Qe2 fu x1 fu (⟨#[]⟩:ByteArray) 0
end Go.Proofs.YtpcmapfabndggaaGreatDoor
