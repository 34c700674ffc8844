/- FnPlanned: what the .. -/
import Derived.Test.YtpcmapfabndggaaGreatDoorS13
import Derived.Test.YtpcmapfabndggaaGreatDoorS15
import Derived.Test.YtpcmapfabndggaaGreatDoorS21
set_option linter.unusedVariables false
namespace Go.Proofs.YtpcmapfabndggaaGreatDoor
open Go
def Qv3 (fu:Nat) (Aa:List U8):Option (Bool) :=
  some (decide ((Aa.length:Int)>1048576))
def Qr9 (fu:Nat) (k3:Int→Int→Option (Cur)) (Ac:List U8) (Ab:Int) (Aa:Int)  : Option (Cur) :=
  Qac (ix Ac Aa) λAd=>k3 (IntKind.wrap .i64 (((BitVec.ofInt (IntKind.bits .i64) (w64 ((w64 ((w64 (Ab*131))+(w64 Ad.n)))+7)) &&& BitVec.ofInt (IntKind.bits .i64) 1073741823).toNat:Nat):Int)) (w64 (Aa+1))
def Qo9 (fu:Nat)  (Aa:List U8) (k3:Int→Int→Option (Cur)) (Ac:Int) (Ab:Int):Option (Cur) :=
  bif (decide (Ab<(Aa.length:Int))) then bif (decide (Ab<4000)) then Qr9 fu k3 Aa Ac Ab else some (⟨Aa,0,Ac⟩:Cur) else some (⟨Aa,0,Ac⟩:Cur)
def Qhr (fu:Nat)  (Aa:List U8):Nat→Int→Int→Option (Cur)
  | 0=>λ_ _=>none
  | n+1=>Qo9 fu Aa (Qhr fu Aa n)
def Qs0 (fu:Nat) (Aa:List U8):Option (Cur) :=
  Qhr fu Aa fu (w64 (26583+(Aa.length:Int))) 0
def Qh0 (fu:Nat) (c1:Cur):Option (Int×Cur) :=
  bif (decide (c1.fi<(c1.fb.length:Int))) then Qac (ix c1.fb c1.fi) λAa=>some (IntKind.wrap .i64 (((BitVec.ofInt (IntKind.bits .i64) (w64 ((IntKind.wrap .i64 (((BitVec.ofInt (IntKind.bits .i64) (IntKind.wrap .i64 (((BitVec.ofInt (IntKind.bits .i64) (Int.fdiv (w64 ((w64 (c1.fh*6364136223846793005))+1442695040888963407)) (2 ^ (min 33 (IntKind.bits .i64)))) ^^^ BitVec.ofInt (IntKind.bits .i64) (Int.fdiv (w64 ((w64 (c1.fh*6364136223846793005))+1442695040888963407)) (2 ^ (min 45 (IntKind.bits .i64))))).toNat:Nat):Int)) &&& BitVec.ofInt (IntKind.bits .i64) 255).toNat:Nat):Int))+(w64 Aa.n))) &&& BitVec.ofInt (IntKind.bits .i64) 255).toNat:Nat):Int),(⟨c1.fb,w64 (c1.fi+1),w64 ((w64 (c1.fh*6364136223846793005))+1442695040888963407)⟩:Cur)) else some (IntKind.wrap .i64 (((BitVec.ofInt (IntKind.bits .i64) (IntKind.wrap .i64 (((BitVec.ofInt (IntKind.bits .i64) (Int.fdiv (w64 ((w64 (c1.fh*6364136223846793005))+1442695040888963407)) (2 ^ (min 33 (IntKind.bits .i64)))) ^^^ BitVec.ofInt (IntKind.bits .i64) (Int.fdiv (w64 ((w64 (c1.fh*6364136223846793005))+1442695040888963407)) (2 ^ (min 45 (IntKind.bits .i64))))).toNat:Nat):Int)) &&& BitVec.ofInt (IntKind.bits .i64) 255).toNat:Nat):Int),(⟨c1.fb,c1.fi,w64 ((w64 (c1.fh*6364136223846793005))+1442695040888963407)⟩:Cur))
def Qaz (fu:Nat) (c1:Cur) (n7:Int):Option (Int×Cur) :=
  bif (decide (n7≤0)) then some (0,c1) else bif (decide (n7≤256)) then Qac (Qh0 fu c1) λAc=>Qac (Jg4 n7) λAg=>some (Int.tmod Ac.1 n7,(⟨c1.fb,Ac.2.fi,Ac.2.fh⟩:Cur)) else Qac (Qh0 fu c1) λAa=>Qac (Qh0 fu (⟨c1.fb,Aa.2.fi,Aa.2.fh⟩:Cur)) λAb=>Qac (Qh0 fu (⟨c1.fb,Ab.2.fi,Ab.2.fh⟩:Cur)) λAd=>Qac (Qh0 fu (⟨c1.fb,Ad.2.fi,Ad.2.fh⟩:Cur)) λAe=>Qac (Jg4 n7) λAf=>some (Int.tmod (w64 ((w64 ((w64 ((w64 (Aa.1*16777216))+(w64 (Ab.1*65536))))+(w64 (Ad.1*256))))+Ae.1)) n7,(⟨c1.fb,Ae.2.fi,Ae.2.fh⟩:Cur))
def Qlw (fu:Nat) (c1:Cur) (n7:Int):Option (Bool×Cur) :=
  Qac (Qaz fu c1 n7) λx9=>some (x9.1==0,(⟨c1.fb,x9.2.fi,x9.2.fh⟩:Cur))
def Qcp (fu:Nat) (c1:Cur) (Ab:List Int):Option (Int×Cur) :=
  Qac (Qaz fu c1 (Ab.length:Int)) λAa=>Qac (ix Ab Aa.1) λAc=>some (Ac,(⟨c1.fb,Aa.2.fi,Aa.2.fh⟩:Cur))
def Qid (fu:Nat) (Ab:Int→Int→List Pair→Int→Option (Request×Cur)) (Ad:Int) (Ac:Int) (Aa:Int) (Ae:List Pair):Option (Request×Cur) :=
  Ab Ac Aa Ae (w64 (Ad+1))
def Ql3 (fu:Nat) (k9:Int→Int→List Pair→Int→Option (Request×Cur)) (c1:Cur) (Ab:Int) (Ae:Int→Int→List Pair→Int→Option (Request×Cur)) (Af:Int) (Ag:Int) (Ad:List Pair) (Aa:Int):Option (Request×Cur) :=
  bif (decide (Aa≤Ab)) then bif (Ab==Aa) then Qac (Qg8 16 Ad (([(⟨Ab,Ab⟩:Pair)]:List Pair))) λAh=>Qid fu Ae Aa Af Ag Ah else Qac (Qlw fu (⟨c1.fb,Af,Ag⟩:Cur) 2) λAc=>bif Ac.1 then Qac (Qg8 16 Ad (([(⟨Ab,Aa⟩:Pair),(⟨Aa,Ab⟩:Pair)]:List Pair))) λAi=>Qid fu Ae Aa Ac.2.fi Ac.2.fh Ai else Qid fu Ae Aa Ac.2.fi Ac.2.fh Ad else k9 Af Ag Ad (w64 (Ab+1))
def Qfp (fu:Nat) (k9:Int→Int→List Pair→Int→Option (Request×Cur)) (c1:Cur) (Aa:Int):Nat→Int→Int→List Pair→Int→Option (Request×Cur)
  | 0=>λ_ _ _ _=>none
  | n+1=>Ql3 fu k9 c1 Aa (Qfp fu k9 c1 Aa n)
def Qkd (fu:Nat) (Ac:Int→Int→List Item→Int→Int→Option (Request×Cur)) (Af:Int) (Aa:Int) (Ad:Int) (Ae:List Item) (Ab:Int):Option (Request×Cur) :=
  Ac Aa Ad Ae Ab (w64 (Af+1))
def Qia (fu:Nat) (Af:Int→Int→List Item→Int→Int→Option (Request×Cur)) (Ad:List Item) (Aa:Int) (Ag:Int) (Ae:Int) (Ac:Int) (Ab:Item):Option (Request×Cur) :=
  bif (decide ((w64 (Aa+Ab.f0))≤12)) then Qac (Qg8 56 Ad (([Ab]:List Item))) λAh=>Qkd fu Af Ag Ae Ac Ah (w64 (Aa+Ab.f0)) else Qkd fu Af Ag Ae Ac Ad Aa
def Qpb (fu:Nat) (Ae:Int→Int→List Item→Int→Int→Option (Request×Cur)) (c1:Cur) (Ad:List Item) (Af:Int) (Ag:Int) (Ai:Int) (Ah:Int) (Ab:Item):Option (Request×Cur) :=
  Qac (Qlw fu (⟨c1.fb,Ai,Ah⟩:Cur) 3) λAa=>bif Aa.1 then Qac (Qaz fu (⟨c1.fb,Aa.2.fi,Aa.2.fh⟩:Cur) 8) λAc=>Qia fu Ae Ad Af Ag Ac.2.fi Ac.2.fh (⟨Ab.qQ,5,5,w64 (4+Ac.1),Ab.fQ,Ab.fL,Ab.f0⟩:Item) else Qia fu Ae Ad Af Ag Aa.2.fi Aa.2.fh Ab
def Qlh (fu:Nat)  (c1:Cur) (Al:Int×Cur) (Av:Int×Cur) (Ar:Int×Cur) (Au:Int×Cur) (Aq:Int×Cur) (Aj:Int×Cur) (Am:List Pair) (At:List Typ) (Ap:Int×Cur) (Ao:Int→Int→List Item→Int→Int→Option (Request×Cur)) (Ai:Int) (Ak:Int) (Ah:List Item) (As:Int) (Ag:Int):Option (Request×Cur) :=
  bif (decide (Ag<Ap.1)) then Qac (Qaz fu (⟨c1.fb,Ai,Ak⟩:Cur) 10) λAc=>Qac (Qaz fu (⟨c1.fb,Ac.2.fi,Ac.2.fh⟩:Cur) 10) λAd=>Qac (Qaz fu (⟨c1.fb,Ad.2.fi,Ad.2.fh⟩:Cur) 10) λAb=>Qac (Qaz fu (⟨c1.fb,Ab.2.fi,Ab.2.fh⟩:Cur) 60) λAa=>Qac (Qaz fu (⟨c1.fb,Aa.2.fi,Aa.2.fh⟩:Cur) (w64 (1+Aj.1))) λAf=>Qac (Qaz fu (⟨c1.fb,Af.2.fi,Af.2.fh⟩:Cur) 4) λAe=>Qpb fu Ao c1 Ah As Ag Ae.2.fi Ae.2.fh (⟨w64 (3*Ag),w64 (1+Ac.1),w64 (1+Ad.1),w64 (1+Ab.1),w64 (1+Aa.1),Af.1,w64 (1+Ae.1)⟩:Item) else some ((⟨Al.1,(⟨Av.1,Ar.1,Au.1,Aq.1⟩:Pallet),w64 (1+Aj.1),Am,At,7,Ah⟩:Request),(⟨c1.fb,Ai,Ak⟩:Cur))
def Qdi (fu:Nat)  (c1:Cur) (Ai:Int×Cur) (Ae:Int×Cur) (Af:Int×Cur) (Aa:Int×Cur) (Ad:Int×Cur) (Ah:Int×Cur) (Ab:List Pair) (Ag:List Typ) (Ac:Int×Cur):Nat→Int→Int→List Item→Int→Int→Option (Request×Cur)
  | 0=>λ_ _ _ _ _=>none
  | n+1=>Qlh fu c1 Ai Ae Af Aa Ad Ah Ab Ag Ac (Qdi fu c1 Ai Ae Af Aa Ad Ah Ab Ag Ac n)
def Qlk (fu:Nat)  (c1:Cur) (Am:Int×Cur) (Av:Int×Cur) (As:Int×Cur) (Au:Int×Cur) (Aq:Int×Cur) (Al:Int×Cur) (Ao:List Pair) (Ar:Int×Cur) (Ap:Int→Int→List Typ→Int→Option (Request×Cur)) (Ai:Int) (Ak:Int) (Aj:List Typ) (Ae:Int):Option (Request×Cur) :=
  bif (decide (Ae<Ar.1)) then Qac (Qaz fu (⟨c1.fb,Ai,Ak⟩:Cur) 9) λAg=>Qac (Qaz fu (⟨c1.fb,Ag.2.fi,Ag.2.fh⟩:Cur) 8) λAf=>Qac (Qaz fu (⟨c1.fb,Af.2.fi,Af.2.fh⟩:Cur) 9) λAh=>Qac (Qaz fu (⟨c1.fb,Ah.2.fi,Ah.2.fh⟩:Cur) 5) λAa=>Qac (Qaz fu (⟨c1.fb,Aa.2.fi,Aa.2.fh⟩:Cur) 90) λAb=>Qac (Qaz fu (⟨c1.fb,Ab.2.fi,Ab.2.fh⟩:Cur) 20) λAd=>Qac (Qg8 56 Aj (([(⟨w64 (10+Ae),w64 (4+Ag.1),w64 (3+Af.1),w64 (3+Ah.1),Aa.1,w64 (20+Ab.1),w64 (1+Ad.1)⟩:Typ)]:List Typ))) λAt=>Ap Ad.2.fi Ad.2.fh At (w64 (Ae+1)) else Qac (Qaz fu (⟨c1.fb,Ai,Ak⟩:Cur) 6) λAc=>Qdi fu c1 Am Av As Au Aq Al Ao Aj Ac fu Ac.2.fi Ac.2.fh (([]:List Item)) 0 0
def Qhb (fu:Nat)  (c1:Cur) (Ah:Int×Cur) (Ad:Int×Cur) (Af:Int×Cur) (Aa:Int×Cur) (Ac:Int×Cur) (Ag:Int×Cur) (Ab:List Pair) (Ae:Int×Cur):Nat→Int→Int→List Typ→Int→Option (Request×Cur)
  | 0=>λ_ _ _ _=>none
  | n+1=>Qlk fu c1 Ah Ad Af Aa Ac Ag Ab Ae (Qhb fu c1 Ah Ad Af Aa Ac Ag Ab Ae n)
def Qpi (fu:Nat) (c1:Cur) (Ak:Int×Cur) (Ah:Int×Cur) (Ai:Int×Cur) (Ab:Int×Cur) (Af:Int×Cur) (Aj:Int×Cur) (Ad:List Pair) (Ag:Int) (Ac:Int) (Ae:List Typ):Option (Request×Cur) :=
  Qac (Qaz fu (⟨c1.fb,Ag,Ac⟩:Cur) 5) λAa=>Qhb fu c1 Ak Ah Ai Ab Af Aj Ad Aa fu Aa.2.fi Aa.2.fh Ae 0
def Qlx (fu:Nat)  (c1:Cur) (Ao:Int×Cur) (Ak:Int×Cur) (Al:Int×Cur) (Ai:Int×Cur) (Aj:Int×Cur) (Ah:Int×Cur) (k9:Int→Int→List Pair→Int→Option (Request×Cur)) (Ae:Int) (Af:Int) (Ad:List Pair) (Ag:Int):Option (Request×Cur) :=
  bif (decide (Ag<(w64 (1+Ah.1)))) then Qfp fu k9 c1 Ag fu Ae Af Ad 0 else Qac (Qaz fu (⟨c1.fb,Ae,Af⟩:Cur) 8) λAc=>Qac (Qcp fu (⟨c1.fb,Ac.2.fi,Ac.2.fh⟩:Cur) (([60,100,140]:List Int))) λAb=>Qac (Qcp fu (⟨c1.fb,Ab.2.fi,Ab.2.fh⟩:Cur) (([9,20]:List Int))) λAa=>Qac (Qg8 56 (([]:List Typ)) (([(⟨7,12,10,11,Ac.1,Ab.1,Aa.1⟩:Typ)]:List Typ))) λAm=>Qpi fu c1 Ao Ak Al Ai Aj Ah Ad Aa.2.fi Aa.2.fh Am
def Qd0 (fu:Nat)  (c1:Cur) (Af:Int×Cur) (Ac:Int×Cur) (Ad:Int×Cur) (Aa:Int×Cur) (Ab:Int×Cur) (Ae:Int×Cur):Nat→Int→Int→List Pair→Int→Option (Request×Cur)
  | 0=>λ_ _ _ _=>none
  | n+1=>Qlx fu c1 Af Ac Ad Aa Ab Ae (Qd0 fu c1 Af Ac Ad Aa Ab Ae n)
def Qnc (fu:Nat) (c1:Cur):Option (Request×Cur) :=
  Qac (Qaz fu c1 2) λAf=>Qac (Qcp fu (⟨c1.fb,Af.2.fi,Af.2.fh⟩:Cur) (([20,30,37]:List Int))) λAc=>Qac (Qcp fu (⟨c1.fb,Ac.2.fi,Ac.2.fh⟩:Cur) (([20,25,40]:List Int))) λAd=>Qac (Qcp fu (⟨c1.fb,Ad.2.fi,Ad.2.fh⟩:Cur) (([15,24,50]:List Int))) λAa=>Qac (Qcp fu (⟨c1.fb,Aa.2.fi,Aa.2.fh⟩:Cur) (([150,400,5000]:List Int))) λAb=>Qac (Qaz fu (⟨c1.fb,Ab.2.fi,Ab.2.fh⟩:Cur) 4) λAe=>Qd0 fu c1 Af Ac Ad Aa Ab Ae fu Ae.2.fi Ae.2.fh (([]:List Pair)) 0
def Qa1 (fu:Nat) (x1:Int) (Ab:Int) (Aa:Int):Option (Bool) :=
  bif (decide (x1≥Ab)) then some (decide (x1≤Aa)) else some (false)
def Qen (fu:Nat) (x1:Int):Option (Bool) :=
  Qac (Qa1 fu x1 1 2000) λx2=>some (x2)
def Qhl (fu:Nat) (x1:Pallet):Option (Bool) :=
  Qac (Qen fu x1.fW) λx5=>bif x5 then Qac (Qen fu x1.fD) λAa=>bif Aa then Qac (Qen fu x1.fH) λAb=>bif Ab then Qac (Qa1 fu x1.fQ 1 100000) λAc=>some (Ac) else some (false) else some (false) else some (false)
def Qof (fu:Nat) (x1:Int):Option (Bool) :=
  Qac (Qa1 fu x1 0 999) λx2=>some (x2)
def Qri (fu:Nat) (x1:Typ):Option (Bool) :=
  Qac (Qof fu x1.qQ) λx5=>bif x5 then Qac (Qen fu x1.fW) λAf=>bif Af then Qac (Qen fu x1.fH) λAc=>bif Ac then Qac (Qen fu x1.fD) λAb=>bif Ab then Qac (Qa1 fu x1.ft 0 100000) λAe=>bif Ae then Qac (Qa1 fu x1.fQ 1 100000) λAd=>bif Ad then Qac (Qa1 fu x1.fK 0 100000) λAa=>some (Aa) else some (false) else some (false) else some (false) else some (false) else some (false) else some (false)
def Qr8 (fu:Nat) (x1:Item):Option (Bool) :=
  Qac (Qof fu x1.qQ) λx5=>bif x5 then Qac (Qen fu x1.fW) λAf=>bif Af then Qac (Qen fu x1.fH) λAc=>bif Ac then Qac (Qen fu x1.fD) λAb=>bif Ab then Qac (Qa1 fu x1.fQ 1 100000) λAe=>bif Ae then Qac (Qa1 fu x1.fL 0 3) λAd=>bif Ad then Qac (Qa1 fu x1.f0 1 6) λAa=>some (Aa) else some (false) else some (false) else some (false) else some (false) else some (false) else some (false)
def Qnr (fu:Nat) (k4:Int→Option (Bool)) (Aa:Int)  : Option (Bool) :=
  k4 (w64 (Aa+1))
def Qj1 (fu:Nat)  (r1:Request) (k7:Int→Int→Option (Bool)) (Ac:Int) (Aa:Int):Option (Bool) :=
  bif (decide (Aa<(r1.fU.length:Int))) then Qac (ix r1.fU Aa) λAb=>Qac (Qr8 fu Ab) λAd=>bif (!Ad) then some (false) else Qac (ix r1.fU Aa) λAe=>k7 (w64 (Ac+Ab.f0)) (w64 (Aa+1)) else some (decide (Ac≤12))
def Qee (fu:Nat)  (r1:Request):Nat→Int→Int→Option (Bool)
  | 0=>λ_ _=>none
  | n+1=>Qj1 fu r1 (Qee fu r1 n)
def Qju (fu:Nat)  (r1:Request) (k6:Int→Option (Bool)) (Aa:Int):Option (Bool) :=
  bif (decide (Aa<(r1.fR.length:Int))) then Qac (ix r1.fR Aa) λAb=>Qac (Qri fu Ab) λAc=>bif (!Ac) then some (false) else k6 (w64 (Aa+1)) else Qee fu r1 fu 0 0
def Qeb (fu:Nat)  (r1:Request):Nat→Int→Option (Bool)
  | 0=>λ_=>none
  | n+1=>Qju fu r1 (Qeb fu r1 n)
def Qj7 (fu:Nat)  (r1:Request) (k4:Int→Option (Bool)) (Aa:Int):Option (Bool) :=
  bif (decide (Aa<(r1.fT.length:Int))) then Qac (ix r1.fT Aa) λAb=>Qac (Qa1 fu Ab.fA 0 3) λAc=>bif (!Ac) then some (false) else Qac (ix r1.fT Aa) λAe=>Qac (Qa1 fu Ab.fB 0 3) λAd=>bif (!Ad) then some (false) else Qnr fu k4 Aa else Qeb fu r1 fu 0
def Qec (fu:Nat)  (r1:Request):Nat→Int→Option (Bool)
  | 0=>λ_=>none
  | n+1=>Qj7 fu r1 (Qec fu r1 n)
def Qn4 (fu:Nat) (r1:Request)  : Option (Bool) :=
  Qec fu r1 fu 0
def Qoo (fu:Nat) (r1:Request):Option (Bool) :=
  Qac (Qa1 fu r1.qY 0 1) λAd=>bif (!Ad) then some (false) else Qac (Qhl fu r1.fJ) λAa=>bif (!Aa) then some (false) else Qac (Qa1 fu r1.fG 1 4) λAb=>bif (!Ab) then some (false) else bif (decide ((r1.fT.length:Int)>16)) then some (false) else Qac (Qa1 fu (r1.fR.length:Int) 1 5) λAe=>bif (!Ae) then some (false) else Qac (Qof fu r1.fP) λAc=>bif (!Ac) then some (false) else bif (decide ((r1.fU.length:Int)>8)) then some (false) else Qn4 fu r1
def Qjy (fu:Nat)  (r1:Request) (k1:Int→Option (Typ×Bool)) (Aa:Int):Option (Typ×Bool) :=
  bif (decide (Aa<(r1.fR.length:Int))) then Qac (ix r1.fR Aa) λAb=>bif (Ab.qQ==r1.fP) then Qac (ix r1.fR Aa) λAc=>some (Ab,true) else k1 (w64 (Aa+1)) else some ((⟨0,0,0,0,0,0,0⟩:Typ),false)
def Qf8 (fu:Nat)  (r1:Request):Nat→Int→Option (Typ×Bool)
  | 0=>λ_=>none
  | n+1=>Qjy fu r1 (Qf8 fu r1 n)
def Qf6 (fu:Nat) (r1:Request):Option (Typ×Bool) :=
  Qf8 fu r1 fu 0
def Qmq (fu:Nat) (k3:Int→Option (Bool)) (r1:Request) (Ab:Int) (k4:Int→Option (Bool)) (Aa:Int):Option (Bool) :=
  bif (decide (Aa<Ab)) then Qac (ix r1.fR Ab) λAc=>Qac (ix r1.fR Aa) λAd=>bif (Ac.qQ==Ad.qQ) then some (false) else k4 (w64 (Aa+1)) else k3 (w64 (Ab+1))
def Qep (fu:Nat) (k3:Int→Option (Bool)) (r1:Request) (Aa:Int):Nat→Int→Option (Bool)
  | 0=>λ_=>none
  | n+1=>Qmq fu k3 r1 Aa (Qep fu k3 r1 Aa n)
def Qlp (fu:Nat) (k7:Int→Option (Bool)) (r1:Request) (Ab:Int) (k8:Int→Option (Bool)) (Aa:Int):Option (Bool) :=
  bif (decide (Aa<Ab)) then Qac (ix r1.fU Ab) λAc=>Qac (ix r1.fU Aa) λAd=>bif (Ac.qQ==Ad.qQ) then some (false) else k8 (w64 (Aa+1)) else k7 (w64 (Ab+1))
def Qer (fu:Nat) (k7:Int→Option (Bool)) (r1:Request) (Aa:Int):Nat→Int→Option (Bool)
  | 0=>λ_=>none
  | n+1=>Qlp fu k7 r1 Aa (Qer fu k7 r1 Aa n)
def Qoz (fu:Nat) (Ab:Int→Option (Bool)) (Aa:Int)  : Option (Bool) :=
  Ab (w64 (Aa+1))
def Qmg (fu:Nat)  (r1:Request) (Ad:Int→Option (Bool)) (Aa:Int):Option (Bool) :=
  bif (decide (Aa<(r1.fT.length:Int))) then Qac (ix r1.fT Aa) λAb=>bif (decide (Ab.fA≥r1.fG)) then some (false) else Qac (ix r1.fT Aa) λAe=>bif (decide (Ab.fB≥r1.fG)) then some (false) else Qoz fu Ad Aa else Qac (Qf6 fu r1) λAc=>some (Ac.2)
def Qd6 (fu:Nat)  (r1:Request):Nat→Int→Option (Bool)
  | 0=>λ_=>none
  | n+1=>Qmg fu r1 (Qd6 fu r1 n)
def Qmj (fu:Nat)  (r1:Request) (k7:Int→Option (Bool)) (Aa:Int):Option (Bool) :=
  bif (decide (Aa<(r1.fU.length:Int))) then Qac (ix r1.fU Aa) λAb=>bif (decide (Ab.fL≥r1.fG)) then some (false) else Qer fu k7 r1 Aa fu 0 else Qd6 fu r1 fu 0
def Qbv (fu:Nat)  (r1:Request):Nat→Int→Option (Bool)
  | 0=>λ_=>none
  | n+1=>Qmj fu r1 (Qbv fu r1 n)
def Qmf (fu:Nat)  (r1:Request) (k3:Int→Option (Bool)) (Aa:Int):Option (Bool) :=
  bif (decide (Aa<(r1.fR.length:Int))) then Qep fu k3 r1 Aa fu 0 else Qbv fu r1 fu 0
def Qbz (fu:Nat)  (r1:Request):Nat→Int→Option (Bool)
  | 0=>λ_=>none
  | n+1=>Qmf fu r1 (Qbz fu r1 n)
def Qpy (fu:Nat) (r1:Request):Option (Bool) :=
  Qbz fu r1 fu 0
def Qm0 (fu:Nat) (k3:Int→Option (Bool)) (Aa:Int)  : Option (Bool) :=
  k3 (w64 (Aa+1))
def Qnk (fu:Nat)  (Ab:List Pair) (a5:Int) (b6:Int) (k3:Int→Option (Bool)) (Aa:Int):Option (Bool) :=
  bif (decide (Aa<(Ab.length:Int))) then Qac (ix Ab Aa) λAc=>bif (Ac.fA==a5) then Qac (ix Ab Aa) λAd=>bif (Ac.fB==b6) then some (true) else Qm0 fu k3 Aa else Qm0 fu k3 Aa else some (false)
def Qgn (fu:Nat)  (Aa:List Pair) (a5:Int) (b6:Int):Nat→Int→Option (Bool)
  | 0=>λ_=>none
  | n+1=>Qnk fu Aa a5 b6 (Qgn fu Aa a5 b6 n)
def Qf9 (fu:Nat) (Aa:List Pair) (a5:Int) (b6:Int):Option (Bool) :=
  Qgn fu Aa a5 b6 fu 0
def Qkh (fu:Nat) (Aa:Int→Option (Bool)) (Ab:Int)  : Option (Bool) :=
  Aa (w64 (Ab+1))
def Qln (fu:Nat) (k9:Int→Option (Bool)) (Ac:List Pair) (Af:Int) (Aa:Int) (Ad:Int→Option (Bool)) (Ab:Int):Option (Bool) :=
  bif (decide (Ab<Af)) then bif (Aa==Ab) then Qac (Qf9 fu Ac Aa Aa) λAg=>bif (!Ag) then some (false) else Qac (Qf9 fu Ac Aa Ab) λAi=>Qac (Qf9 fu Ac Ab Aa) λAe=>bif (!(Ai==Ae)) then some (false) else Qkh fu Ad Ab else Qac (Qf9 fu Ac Aa Ab) λAj=>Qac (Qf9 fu Ac Ab Aa) λAh=>bif (!(Aj==Ah)) then some (false) else Qkh fu Ad Ab else k9 (w64 (Aa+1))
def Qew (fu:Nat) (k9:Int→Option (Bool)) (Ab:List Pair) (Aa:Int) (Ac:Int):Nat→Int→Option (Bool)
  | 0=>λ_=>none
  | n+1=>Qln fu k9 Ab Aa Ac (Qew fu k9 Ab Aa Ac n)
def Qlb (fu:Nat)  (Ac:List Pair) (Aa:Int) (k9:Int→Option (Bool)) (Ab:Int):Option (Bool) :=
  bif (decide (Ab<Aa)) then Qew fu k9 Ac Aa Ab fu 0 else some (true)
def Qd2 (fu:Nat)  (Ab:List Pair) (Aa:Int):Nat→Int→Option (Bool)
  | 0=>λ_=>none
  | n+1=>Qlb fu Ab Aa (Qd2 fu Ab Aa n)
def Qpx (fu:Nat) (Ab:List Pair) (Aa:Int):Option (Bool) :=
  Qac (Qa1 fu Aa 1 4) λx6=>bif (!x6) then some (false) else Qd2 fu Ab Aa fu 0
def Qjp (fu:Nat)  (n1:Int) (k1:List Int→Int→Option ((List Int))) (Ab:List Int) (Aa:Int):Option ((List Int)) :=
  bif (decide (Aa<n1)) then Qac (Qg8 8 Ab (([Aa]:List Int))) λAc=>k1 Ac (w64 (Aa+1)) else some (Ab)
def Qgk (fu:Nat)  (n1:Int):Nat→List Int→Int→Option ((List Int))
  | 0=>λ_ _=>none
  | n+1=>Qjp fu n1 (Qgk fu n1 n)
def Qkj (fu:Nat) (n1:Int):Option ((List Int)) :=
  Qgk fu n1 fu (([]:List Int)) 0
def Qib (fu:Nat) (k3:List Int→Int→Int→Option ((List Int))) (Ah:List Int) (Ak:Bool) (Ac:(List Int)) (Ae:(List Int)) (Ad:List Int) (Aa:Int) (Ab:Int)  : Option ((List Int)) :=
  bif (Ab==(Ae.length:Int)) then Qac (ix Ac Aa) λAq=>Qac (Qg8 8 Ad (([Aq]:List Int))) λAp=>k3 Ap (w64 (Aa+1)) Ab else bif (Aa==(Ac.length:Int)) then Qac (ix Ae Ab) λAo=>Qac (Qg8 8 Ad (([Ao]:List Int))) λAt=>k3 At Aa (w64 (Ab+1)) else Qac (ix Ae Ab) λAg=>Qac (ix Ah Ag) λAj=>Qac (ix Ac Aa) λAf=>Qac (ix Ah Af) λAi=>bif (decide (Aj<Ai)) then bif (!Ak) then Qac (ix Ae Ab) λBi=>Qac (Qg8 8 Ad (([Ag]:List Int))) λAv=>k3 Av Aa (w64 (Ab+1)) else Qac (ix Ae Ab) λBe=>Qac (ix Ah Ag) λBb=>Qac (ix Ac Aa) λAy=>Qac (ix Ah Af) λBf=>bif (decide (Aj>Ai)) then bif Ak then Qac (ix Ae Ab) λBc=>Qac (Qg8 8 Ad (([Ag]:List Int))) λAs=>k3 As Aa (w64 (Ab+1)) else Qac (ix Ac Aa) λBg=>Qac (Qg8 8 Ad (([Af]:List Int))) λAl=>k3 Al (w64 (Aa+1)) Ab else Qac (ix Ac Aa) λBd=>Qac (Qg8 8 Ad (([Af]:List Int))) λAw=>k3 Aw (w64 (Aa+1)) Ab else Qac (ix Ae Ab) λBk=>Qac (ix Ah Ag) λBl=>Qac (ix Ac Aa) λBh=>Qac (ix Ah Af) λAx=>bif (decide (Aj>Ai)) then bif Ak then Qac (ix Ae Ab) λBj=>Qac (Qg8 8 Ad (([Ag]:List Int))) λAu=>k3 Au Aa (w64 (Ab+1)) else Qac (ix Ac Aa) λBa=>Qac (Qg8 8 Ad (([Af]:List Int))) λAr=>k3 Ar (w64 (Aa+1)) Ab else Qac (ix Ac Aa) λAz=>Qac (Qg8 8 Ad (([Af]:List Int))) λAm=>k3 Am (w64 (Aa+1)) Ab
def Qk6 (fu:Nat)  (Ag:List Int) (Af:Bool) (Ae:(List Int)) (Ab:(List Int)) (k3:List Int→Int→Int→Option ((List Int))) (Ac:List Int) (Aa:Int) (Ad:Int):Option ((List Int)) :=
  bif (decide (Aa<(Ae.length:Int))) then Qib fu k3 Ag Af Ae Ab Ac Aa Ad else bif (decide (Ad<(Ab.length:Int))) then Qib fu k3 Ag Af Ae Ab Ac Aa Ad else some (Ac)
def Qc2 (fu:Nat)  (Aa:List Int) (Ac:Bool) (Ad:(List Int)) (Ab:(List Int)):Nat→List Int→Int→Int→Option ((List Int))
  | 0=>λ_ _ _=>none
  | n+1=>Qk6 fu Aa Ac Ad Ab (Qc2 fu Aa Ac Ad Ab n)
def Qsj (fu:Nat) (self:List Int→List Int→Bool→Option ((List Int))) (Ac:List Int) (Aa:List Int) (Ab:Bool):Option ((List Int)) :=
  bif (decide ((Aa.length:Int)<2)) then Qac (Qg8 8 (([]:List Int)) Aa) λAg=>some (Ag) else Qac (sls Aa 0 (w64 (Int.tdiv (Aa.length:Int) 2))) λAf=>Qac (self Ac Af Ab) λAh=>Qac (sls Aa (w64 (Int.tdiv (Aa.length:Int) 2)) (Aa.length:Int)) λAe=>Qac (self Ac Ae Ab) λAd=>Qc2 fu Ac Ab Ah Ad fu (([]:List Int)) 0 0
def Qiv (fu:Nat):Nat→List Int→List Int→Bool→Option ((List Int))
  | 0=>λ_ _ _=>none
  | n+1=>Qsj fu (Qiv fu n)
def Qp7 (fu:Nat) (Aa:List Int) (Ac:List Int) (Ab:Bool):Option ((List Int)):=Qiv fu fu Aa Ac Ab
def Qpo (fu:Nat) (Aa:List Int):Option ((List Int)) :=
  Qac (Qkj fu (Aa.length:Int)) λx5=>Qac (Qp7 fu Aa x5 false) λAb=>some (Ab)
def Qne (fu:Nat) (Aa:Int) (h2:Int) (d3:Int):Option ((List Int)) :=
  Qac (Qpo fu (([Aa,h2,d3]:List Int))) λx9=>Qac (ix x9 0) λAe=>Qac (ix (([Aa,h2,d3]:List Int)) Ae) λAd=>Qac (ix x9 1) λAc=>Qac (ix (([Aa,h2,d3]:List Int)) Ac) λAb=>Qac (ix x9 2) λAg=>Qac (ix (([Aa,h2,d3]:List Int)) Ag) λAf=>some (([Ad,Ab,Af]:List Int))
def Qq5 (fu:Nat) (x1:Item) (t2:Typ):Option (Bool) :=
  Qac (Qne fu x1.fW x1.fH x1.fD) λAa=>Qac (Qne fu t2.fW t2.fH t2.fD) λAb=>Qac (ix Aa 0) λAh=>Qac (ix Ab 0) λAg=>bif (decide (Ah≤Ag)) then Qac (ix Aa 1) λAf=>Qac (ix Ab 1) λAe=>bif (decide (Af≤Ae)) then Qac (ix Aa 2) λAd=>Qac (ix Ab 2) λAc=>bif (decide (Ad≤Ac)) then some (decide (x1.fQ≤t2.fQ)) else some (false) else some (false) else some (false)
def Qru (fu:Nat) (k4:Int→Option (Int)) (Aa:Int)  : Option (Int) :=
  k4 (w64 (Aa+1))
def Qo7 (fu:Nat)  (r1:Request) (k4:Int→Option (Int)) (Ab:Int):Option (Int) :=
  bif (decide (Ab<(r1.fR.length:Int))) then Qac (ix r1.fR Ab) λAa=>bif (decide (Aa.fW>r1.fJ.fW)) then some (6) else bif (decide (Aa.fD>r1.fJ.fD)) then some (6) else bif (decide (Aa.fH>r1.fJ.fH)) then some (6) else bif (decide ((w64 (Aa.ft+Aa.fQ))>r1.fJ.fQ)) then some (6) else Qru fu k4 Ab else some (0)
def Qf7 (fu:Nat)  (r1:Request):Nat→Int→Option (Int)
  | 0=>λ_=>none
  | n+1=>Qo7 fu r1 (Qf7 fu r1 n)
def Qpk (fu:Nat)  (r1:Request) (Ad:Typ×Bool) (k1:Int→Option (Int)) (Aa:Int):Option (Int) :=
  bif (decide (Aa<(r1.fU.length:Int))) then Qac (ix r1.fU Aa) λAb=>Qac (Qq5 fu Ab Ad.1) λAc=>bif (!Ac) then some (5) else k1 (w64 (Aa+1)) else Qf7 fu r1 fu 0
def Qhk (fu:Nat)  (r1:Request) (Aa:Typ×Bool):Nat→Int→Option (Int)
  | 0=>λ_=>none
  | n+1=>Qpk fu r1 Aa (Qhk fu r1 Aa n)
def Qfv (fu:Nat) (r1:Request):Option (Int) :=
  Qac (Qoo fu r1) λAa=>bif (!Aa) then some (2) else Qac (Qpy fu r1) λAb=>bif (!Ab) then some (3) else Qac (Qpx fu r1.fT r1.fG) λAd=>bif (!Ad) then some (4) else Qac (Qf6 fu r1) λAc=>Qhk fu r1 Ac fu 0
def Qmu (fu:Nat) (k3:List Item→Int→Option (Request×Cur)) (Ab:Int) (Aa:List Item):Option (Request×Cur) :=
  k3 Aa (w64 (Ab+1))
def Qnl (fu:Nat)  (c1:Cur) (Aa:Request×Cur) (Ag:Typ×Bool) (k3:List Item→Int→Option (Request×Cur)) (Ac:List Item) (Ab:Int):Option (Request×Cur) :=
  bif (decide (Ab<(Aa.1.fU.length:Int))) then Qac (ix Aa.1.fU Ab) λAd=>Qac (Qq5 fu Ad Ag.1) λAe=>bif Ae then Qac (ix Aa.1.fU Ab) λAh=>Qac (Qg8 56 Ac (([Ad]:List Item))) λAf=>Qmu fu k3 Ab Af else Qmu fu k3 Ab Ac else some ((⟨Aa.1.qY,(⟨30,25,24,400⟩:Pallet),Aa.1.fG,Aa.1.fT,Aa.1.fR,Aa.1.fP,Ac⟩:Request),(⟨c1.fb,Aa.2.fi,Aa.2.fh⟩:Cur))
def Qgp (fu:Nat)  (c1:Cur) (Aa:Request×Cur) (Ab:Typ×Bool):Nat→List Item→Int→Option (Request×Cur)
  | 0=>λ_ _=>none
  | n+1=>Qnl fu c1 Aa Ab (Qgp fu c1 Aa Ab n)
def Qr6 (fu:Nat) (c1:Cur):Option (Request×Cur) :=
  Qac (Qnc fu c1) λAa=>Qac (Qfv fu Aa.1) λAb=>bif (Ab != 0) then Qac (Qf6 fu ((⟨Aa.1.qY,(⟨30,25,24,400⟩:Pallet),Aa.1.fG,Aa.1.fT,Aa.1.fR,Aa.1.fP,Aa.1.fU⟩:Request))) λAc=>Qgp fu c1 Aa Ac fu (([]:List Item)) 0 else some (Aa.1,(⟨c1.fb,Aa.2.fi,Aa.2.fh⟩:Cur))
def Qbl (fu:Nat) (c1:Cur) (Aa:Request×Cur) (Ah:Int) (Ac:Int) (Ai:Int) (Ak:Int) (Af:List Pair) (Aj:List Typ) (Ae:Int) (Ad:List Item) (Ab:Int) (Ag:Int):Option (Request×Cur) :=
  some ((⟨Ah,(⟨Ac,Aa.1.fJ.fD,Aa.1.fJ.fH,Ai⟩:Pallet),Ak,Af,Aj,Ae,Ad⟩:Request),(⟨c1.fb,Ab,Ag⟩:Cur))
def Qsb (fu:Nat) (c1:Cur):Option (Request×Cur) :=
  Qac (Qnc fu c1) λAa=>Qac (Qcp fu (⟨c1.fb,Aa.2.fi,Aa.2.fh⟩:Cur) (([(-1),0,2001,100001,1000,9223372036854775807]:List Int))) λAc=>Qac (Qaz fu (⟨c1.fb,Ac.2.fi,Ac.2.fh⟩:Cur) 20) λAb=>bif (Ab.1==0) then Qac (Qcp fu (⟨c1.fb,Ab.2.fi,Ab.2.fh⟩:Cur) (([(-1),2]:List Int))) λAf=>Qbl fu c1 Aa Af.1 Aa.1.fJ.fW Aa.1.fJ.fQ Aa.1.fG Aa.1.fT Aa.1.fR Aa.1.fP Aa.1.fU Af.2.fi Af.2.fh else bif (Ab.1==1) then Qbl fu c1 Aa Aa.1.qY Ac.1 Aa.1.fJ.fQ Aa.1.fG Aa.1.fT Aa.1.fR Aa.1.fP Aa.1.fU Ab.2.fi Ab.2.fh else bif (Ab.1==2) then Qbl fu c1 Aa Aa.1.qY Aa.1.fJ.fW Ac.1 Aa.1.fG Aa.1.fT Aa.1.fR Aa.1.fP Aa.1.fU Ab.2.fi Ab.2.fh else bif (Ab.1==3) then Qac (Qcp fu (⟨c1.fb,Ab.2.fi,Ab.2.fh⟩:Cur) (([0,5,1]:List Int))) λAe=>Qbl fu c1 Aa Aa.1.qY Aa.1.fJ.fW Aa.1.fJ.fQ Ae.1 Aa.1.fT Aa.1.fR Aa.1.fP Aa.1.fU Ae.2.fi Ae.2.fh else bif (Ab.1==4) then Qac (Qaz fu (⟨c1.fb,Ab.2.fi,Ab.2.fh⟩:Cur) 6) λAk=>Qac (Qaz fu (⟨c1.fb,Ak.2.fi,Ak.2.fh⟩:Cur) 4) λAj=>Qac (Qg8 16 Aa.1.fT (([(⟨w64 (Ak.1 - 1),Aj.1⟩:Pair)]:List Pair))) λAl=>Qbl fu c1 Aa Aa.1.qY Aa.1.fJ.fW Aa.1.fJ.fQ Aa.1.fG Al Aa.1.fR Aa.1.fP Aa.1.fU Aj.2.fi Aj.2.fh else bif (Ab.1==5) then Qac (ix Aa.1.fR 0) λAt=>Qbl fu c1 Aa Aa.1.qY Aa.1.fJ.fW Aa.1.fJ.fQ Aa.1.fG Aa.1.fT (Qg2 Aa.1.fR 0 ({ At with fH:=Ac.1 })) Aa.1.fP Aa.1.fU Ab.2.fi Ab.2.fh else bif (Ab.1==6) then Qac (Qaz fu (⟨c1.fb,Ab.2.fi,Ab.2.fh⟩:Cur) (Aa.1.fR.length:Int)) λAd=>Qac (ix Aa.1.fR Ad.1) λAp=>Qbl fu c1 Aa Aa.1.qY Aa.1.fJ.fW Aa.1.fJ.fQ Aa.1.fG Aa.1.fT (Qg2 Aa.1.fR Ad.1 ({ Ap with fQ:=Ac.1 })) Aa.1.fP Aa.1.fU Ad.2.fi Ad.2.fh else bif (Ab.1==7) then Qac (Qcp fu (⟨c1.fb,Ab.2.fi,Ab.2.fh⟩:Cur) (([8,(-1),1000]:List Int))) λAi=>Qbl fu c1 Aa Aa.1.qY Aa.1.fJ.fW Aa.1.fJ.fQ Aa.1.fG Aa.1.fT Aa.1.fR Ai.1 Aa.1.fU Ai.2.fi Ai.2.fh else bif (Ab.1==8) then Qac (Qaz fu (⟨c1.fb,Ab.2.fi,Ab.2.fh⟩:Cur) 5) λAh=>Qac (Qaz fu (⟨c1.fb,Ah.2.fi,Ah.2.fh⟩:Cur) 8) λAg=>Qac (Qg8 56 Aa.1.fU (([(⟨3,1,2,3,4,Ah.1,Ag.1⟩:Item)]:List Item))) λAq=>Qbl fu c1 Aa Aa.1.qY Aa.1.fJ.fW Aa.1.fJ.fQ Aa.1.fG Aa.1.fT Aa.1.fR Aa.1.fP Aq Ag.2.fi Ag.2.fh else bif (Ab.1==9) then bif (decide ((Aa.1.fU.length:Int)>0)) then Qac (ix Aa.1.fU 0) λAr=>Qbl fu c1 Aa Aa.1.qY Aa.1.fJ.fW Aa.1.fJ.fQ Aa.1.fG Aa.1.fT Aa.1.fR Aa.1.fP (Qg2 Aa.1.fU 0 ({ Ar with fD:=Ac.1 })) Ab.2.fi Ab.2.fh else Qbl fu c1 Aa Aa.1.qY Aa.1.fJ.fW Aa.1.fJ.fQ Aa.1.fG Aa.1.fT Aa.1.fR Aa.1.fP Aa.1.fU Ab.2.fi Ab.2.fh else bif (Ab.1==10) then bif (decide ((Aa.1.fT.length:Int)>0)) then Qac (sls Aa.1.fT 1 (Aa.1.fT.length:Int)) λAm=>Qbl fu c1 Aa Aa.1.qY Aa.1.fJ.fW Aa.1.fJ.fQ Aa.1.fG Am Aa.1.fR Aa.1.fP Aa.1.fU Ab.2.fi Ab.2.fh else Qbl fu c1 Aa Aa.1.qY Aa.1.fJ.fW Aa.1.fJ.fQ Aa.1.fG Aa.1.fT Aa.1.fR Aa.1.fP Aa.1.fU Ab.2.fi Ab.2.fh else bif (Ab.1==11) then Qac (ix Aa.1.fR 0) λAo=>Qac (Qg8 56 Aa.1.fR (([Ao]:List Typ))) λAs=>Qbl fu c1 Aa Aa.1.qY Aa.1.fJ.fW Aa.1.fJ.fQ Aa.1.fG Aa.1.fT As Aa.1.fP Aa.1.fU Ab.2.fi Ab.2.fh else bif (Ab.1==12) then Qbl fu c1 Aa Aa.1.qY Aa.1.fJ.fW Aa.1.fJ.fQ Aa.1.fG Aa.1.fT (([]:List Typ)) Aa.1.fP Aa.1.fU Ab.2.fi Ab.2.fh else Qbl fu c1 Aa Aa.1.qY Aa.1.fJ.fW Aa.1.fJ.fQ Aa.1.fG Aa.1.fT Aa.1.fR Aa.1.fP Aa.1.fU Ab.2.fi Ab.2.fh
def Qm4 (fu:Nat) (Ab:List U8):Option (Request) :=
  Qac (Qs0 fu Ab) λx8=>Qac (Qlw fu (⟨Ab,x8.fi,x8.fh⟩:Cur) 2) λAa=>bif Aa.1 then Qac (Qr6 fu (⟨Ab,Aa.2.fi,Aa.2.fh⟩:Cur)) λAc=>some (Ac.1) else Qac (Qsb fu (⟨Ab,Aa.2.fi,Aa.2.fh⟩:Cur)) λAd=>some (Ad.1)
def Qpc (fu:Nat) (Aa:List U8):Option (Request) :=
  Qac (Qm4 fu Aa) λx8=>some (x8)
def Qo8 (fu:Nat) (t1:Typ) (x2:Int):Option (Bool) :=
  some (t1.qQ==x2)
def Qci (fu:Nat)  (Ab:List Typ) (f5:Typ→Option Bool) (k1:Int→Option (Int)) (Aa:Int):Option (Int) :=
  bif (decide (Aa<(Ab.length:Int))) then Qac (ix Ab Aa) λAd=>Qac (f5 Ad) λAc=>bif Ac then some (Aa) else k1 (w64 (Aa+1)) else some ((-1))
def Qbb (fu:Nat)  (Aa:List Typ) (f5:Typ→Option Bool):Nat→Int→Option (Int)
  | 0=>λ_=>none
  | n+1=>Qci fu Aa f5 (Qbb fu Aa f5 n)
def Qbo (fu:Nat) (Aa:List Typ) (f5:Typ→Option Bool):Option (Int) :=
  Qbb fu Aa f5 fu 0
def Qhn (fu:Nat) (r1:Request) (Ad:Int):Option (Typ×Bool) :=
  Qac (Qbo fu r1.fR (λAc=>Qo8 fu Ac Ad)) λAa=>bif (decide (Aa<0)) then some ((⟨0,0,0,0,0,0,0⟩:Typ),false) else Qac (ix r1.fR Aa) λAb=>some (Ab,true)
def Qih (fu:Nat) (r1:Request):Option (Typ×Bool) :=
  Qac (Qhn fu r1 r1.fP) λAa=>some (Aa.1,Aa.2)
def Qbk (fu:Nat) (n1:Int) (Ab:Int) (Aa:Int):Option (Bool) :=
  bif (decide (n1≥Ab)) then some (decide (n1≤Aa)) else some (false)
def Qc4 (fu:Nat) (n1:Int):Option (Bool) :=
  Qac (Qbk fu n1 1 2000) λx2=>some (x2)
def Qe9 (fu:Nat) (x1:Pallet):Option (Bool) :=
  Qac (Qc4 fu x1.fW) λx5=>bif x5 then Qac (Qc4 fu x1.fD) λAa=>bif Aa then Qac (Qc4 fu x1.fH) λAb=>bif Ab then Qac (Qbk fu x1.fQ 1 100000) λAc=>some (Ac) else some (false) else some (false) else some (false)
def Qch (fu:Nat)  (Ab:List Pair) (f5:Pair→Option Bool) (k1:Int→Option (Int)) (Aa:Int):Option (Int) :=
  bif (decide (Aa<(Ab.length:Int))) then Qac (ix Ab Aa) λAd=>Qac (f5 Ad) λAc=>bif Ac then some (Aa) else k1 (w64 (Aa+1)) else some ((-1))
def Qa7 (fu:Nat)  (Aa:List Pair) (f5:Pair→Option Bool):Nat→Int→Option (Int)
  | 0=>λ_=>none
  | n+1=>Qch fu Aa f5 (Qa7 fu Aa f5 n)
def Qb7 (fu:Nat) (Aa:List Pair) (f5:Pair→Option Bool):Option (Int) :=
  Qa7 fu Aa f5 fu 0
def Qba (fu:Nat) (Aa:List Pair) (f5:Pair→Option Bool):Option (Bool) :=
  Qac (Qb7 fu Aa f5) λAb=>some (decide (Ab≥0))
def Qkz (fu:Nat) (p1:Pair):Option (Bool) :=
  Qac (Qbk fu p1.fA 0 3) λx5=>bif (!x5) then some (true) else Qac (Qbk fu p1.fB 0 3) λAa=>some (!Aa)
def Qay (fu:Nat) (Aa:List Typ) (f5:Typ→Option Bool):Option (Bool) :=
  Qac (Qbo fu Aa f5) λAb=>some (decide (Ab≥0))
def Qrl (fu:Nat) (x1:Typ):Option (Bool) :=
  Qac (Qbk fu x1.qQ 0 999) λx5=>bif x5 then Qac (Qc4 fu x1.fW) λAf=>bif Af then Qac (Qc4 fu x1.fH) λAc=>bif Ac then Qac (Qc4 fu x1.fD) λAb=>bif Ab then Qac (Qbk fu x1.ft 0 100000) λAe=>bif Ae then Qac (Qbk fu x1.fQ 1 100000) λAd=>bif Ad then Qac (Qbk fu x1.fK 0 100000) λAa=>some (Aa) else some (false) else some (false) else some (false) else some (false) else some (false) else some (false)
def Qkw (fu:Nat) (t1:Typ):Option (Bool) :=
  Qac (Qrl fu t1) λx5=>some (!x5)
def Qrw (fu:Nat) (x1:Item):Option (Bool) :=
  Qac (Qbk fu x1.qQ 0 999) λx5=>bif x5 then Qac (Qc4 fu x1.fW) λAf=>bif Af then Qac (Qc4 fu x1.fH) λAc=>bif Ac then Qac (Qc4 fu x1.fD) λAb=>bif Ab then Qac (Qbk fu x1.fQ 1 100000) λAe=>bif Ae then Qac (Qbk fu x1.fL 0 3) λAd=>bif Ad then Qac (Qbk fu x1.f0 1 6) λAa=>some (Aa) else some (false) else some (false) else some (false) else some (false) else some (false) else some (false)
def Qjx (fu:Nat)  (r1:Request) (k3:Int→Int→Option (Bool)) (Ab:Int) (Aa:Int):Option (Bool) :=
  bif (decide (Aa<(r1.fU.length:Int))) then Qac (ix r1.fU Aa) λAc=>Qac (Qrw fu Ac) λAd=>bif (!Ad) then some (false) else k3 (w64 (Ab+Ac.f0)) (w64 (Aa+1)) else some (decide (Ab≤12))
def Qe2 (fu:Nat)  (r1:Request):Nat→Int→Int→Option (Bool)
  | 0=>λ_ _=>none
  | n+1=>Qjx fu r1 (Qe2 fu r1 n)
def Qnj (fu:Nat) (r1:Request)  : Option (Bool) :=
  Qe2 fu r1 fu 0 0
def Qns (fu:Nat) (r1:Request)  : Option (Bool) :=
  Qac (Qba fu r1.fT (λAc=>Qkz fu Ac)) λAa=>bif Aa then some (false) else Qac (Qbk fu (r1.fR.length:Int) 1 5) λAd=>bif (!Ad) then some (false) else Qac (Qay fu r1.fR (λAb=>Qkw fu Ab)) λAe=>bif Ae then some (false) else Qac (Qbk fu r1.fP 0 999) λAf=>bif (!Af) then some (false) else bif (decide ((r1.fU.length:Int)>8)) then some (false) else Qnj fu r1
def Qoq (fu:Nat) (r1:Request):Option (Bool) :=
  Qac (Qbk fu r1.qY 0 1) λAa=>bif (!Aa) then some (false) else Qac (Qe9 fu r1.fJ) λAb=>bif (!Ab) then some (false) else Qac (Qbk fu r1.fG 1 4) λAc=>bif (!Ac) then some (false) else bif (decide ((r1.fT.length:Int)>16)) then some (false) else Qns fu r1
def Qqw (fu:Nat) (q1:Typ) (x2:Typ):Option (Bool) :=
  some (q1.qQ==x2.qQ)
def Qq1 (fu:Nat) (q1:Item) (x2:Item):Option (Bool) :=
  some (q1.qQ==x2.qQ)
def Qcj (fu:Nat)  (Ab:List Item) (f5:Item→Option Bool) (k1:Int→Option (Int)) (Aa:Int):Option (Int) :=
  bif (decide (Aa<(Ab.length:Int))) then Qac (ix Ab Aa) λAd=>Qac (f5 Ad) λAc=>bif Ac then some (Aa) else k1 (w64 (Aa+1)) else some ((-1))
def Qa8 (fu:Nat)  (Aa:List Item) (f5:Item→Option Bool):Nat→Int→Option (Int)
  | 0=>λ_=>none
  | n+1=>Qcj fu Aa f5 (Qa8 fu Aa f5 n)
def Qb6 (fu:Nat) (Aa:List Item) (f5:Item→Option Bool):Option (Int) :=
  Qa8 fu Aa f5 fu 0
def Qau (fu:Nat) (Aa:List Item) (f5:Item→Option Bool):Option (Bool) :=
  Qac (Qb6 fu Aa f5) λAb=>some (decide (Ab≥0))
def Qmz (fu:Nat) (p1:Pair) (x2:Request):Option (Bool) :=
  bif (decide (p1.fA≥x2.fG)) then some (true) else some (decide (p1.fB≥x2.fG))
def Qps (fu:Nat) (k4:Int→Option (Bool)) (Aa:Int)  : Option (Bool) :=
  k4 (w64 (Aa+1))
def Qle (fu:Nat)  (r1:Request) (k4:Int→Option (Bool)) (Aa:Int):Option (Bool) :=
  bif (decide (Aa<(r1.fU.length:Int))) then Qac (ix r1.fU Aa) λAb=>bif (decide (Ab.fL≥r1.fG)) then some (false) else Qac (sls r1.fU 0 Aa) λAh=>Qac (Qau fu Ah (λAc=>Qq1 fu Ac Ab)) λAd=>bif Ad then some (false) else Qps fu k4 Aa else Qac (Qih fu r1) λAg=>bif Ag.2 then Qac (Qba fu r1.fT (λAe=>Qmz fu Ae r1)) λAf=>some (!Af) else some (false)
def Qd1 (fu:Nat)  (r1:Request):Nat→Int→Option (Bool)
  | 0=>λ_=>none
  | n+1=>Qle fu r1 (Qd1 fu r1 n)
def Qmp (fu:Nat)  (r1:Request) (k1:Int→Option (Bool)) (Aa:Int):Option (Bool) :=
  bif (decide (Aa<(r1.fR.length:Int))) then Qac (ix r1.fR Aa) λAd=>Qac (sls r1.fR 0 Aa) λAe=>Qac (Qay fu Ae (λAb=>Qqw fu Ab Ad)) λAc=>bif Ac then some (false) else k1 (w64 (Aa+1)) else Qd1 fu r1 fu 0
def Qfo (fu:Nat)  (r1:Request):Nat→Int→Option (Bool)
  | 0=>λ_=>none
  | n+1=>Qmp fu r1 (Qfo fu r1 n)
def Qqk (fu:Nat) (r1:Request):Option (Bool) :=
  Qfo fu r1 fu 0
def Qc5 (fu:Nat)  (Ab:List Pair) (v5:Pair) (k1:Int→Option (Int)) (Aa:Int):Option (Int) :=
  bif (decide (Aa<(Ab.length:Int))) then Qac (ix Ab Aa) λAc=>bif (decide (v5=Ac)) then some (Aa) else k1 (w64 (Aa+1)) else some ((-1))
def Qbi (fu:Nat)  (Aa:List Pair) (v5:Pair):Nat→Int→Option (Int)
  | 0=>λ_=>none
  | n+1=>Qc5 fu Aa v5 (Qbi fu Aa v5 n)
def Qdv (fu:Nat) (Aa:List Pair) (v5:Pair):Option (Int) :=
  Qbi fu Aa v5 fu 0
def Qdd (fu:Nat) (Aa:List Pair) (v5:Pair):Option (Bool) :=
  Qac (Qdv fu Aa v5) λAb=>some (decide (Ab≥0))
def Qh4 (fu:Nat) (Aa:List Pair) (a5:Int) (b6:Int):Option (Bool) :=
  Qac (Qdd fu Aa (⟨a5,b6⟩:Pair)) λx7=>some (x7)
def Qk8 (fu:Nat) (k3:Int→Option (Bool)) (Ac:List Pair) (Ad:Int) (Ab:Int) (k4:Int→Option (Bool)) (Aa:Int):Option (Bool) :=
  bif (decide (Aa<Ad)) then Qac (Qh4 fu Ac Ab Aa) λAe=>Qac (Qh4 fu Ac Aa Ab) λAf=>bif (!(Ae==Af)) then some (false) else k4 (w64 (Aa+1)) else k3 (w64 (Ab+1))
def Qft (fu:Nat) (k3:Int→Option (Bool)) (Ab:List Pair) (Aa:Int) (Ac:Int):Nat→Int→Option (Bool)
  | 0=>λ_=>none
  | n+1=>Qk8 fu k3 Ab Aa Ac (Qft fu k3 Ab Aa Ac n)
def Qld (fu:Nat)  (Ab:List Pair) (Ac:Int) (k3:Int→Option (Bool)) (Aa:Int):Option (Bool) :=
  bif (decide (Aa<Ac)) then Qac (Qh4 fu Ab Aa Aa) λAd=>bif (!Ad) then some (false) else Qft fu k3 Ab Ac Aa fu 0 else some (true)
def Qf3 (fu:Nat)  (Ab:List Pair) (Aa:Int):Nat→Int→Option (Bool)
  | 0=>λ_=>none
  | n+1=>Qld fu Ab Aa (Qf3 fu Ab Aa n)
def Qp0 (fu:Nat) (Ab:List Pair) (Aa:Int):Option (Bool) :=
  Qac (Qbk fu Aa 1 4) λx6=>bif (!x6) then some (false) else Qf3 fu Ab Aa fu 0
def Qcl (fu:Nat) (x1:List Int):Option (List Int):=Q3p x1
def Qst (fu:Nat) (x1:Item) (t2:Typ) (Af:List Int) (Ah:List Int):Option (Bool) :=
  Qac (Qcl fu Af) λAa=>Qac (Qcl fu Ah) λAb=>Qac (ix Aa 0) λAe=>Qac (ix Ab 0) λAj=>bif (decide (Ae≤Aj)) then Qac (ix Aa 1) λAc=>Qac (ix Ab 1) λAd=>bif (decide (Ac≤Ad)) then Qac (ix Aa 2) λAg=>Qac (ix Ab 2) λAi=>bif (decide (Ag≤Ai)) then some (decide (x1.fQ≤t2.fQ)) else some (false) else some (false) else some (false)
def Qsk (fu:Nat) (x1:Item) (t2:Typ):Option (Bool) :=
  Qst fu x1 t2 (([x1.fW,x1.fH,x1.fD]:List Int)) (([t2.fW,t2.fH,t2.fD]:List Int))
def Qpz (fu:Nat) (x1:Item) (x2:Typ):Option (Bool) :=
  Qac (Qsk fu x1 x2) λx8=>some (!x8)
def Qqf (fu:Nat) (t1:Typ) (x2:Pallet):Option (Bool) :=
  bif (decide (t1.fW>x2.fW)) then some (true) else bif (decide (t1.fD>x2.fD)) then some (true) else bif (decide (t1.fH>x2.fH)) then some (true) else some (decide ((w64 (t1.ft+t1.fQ))>x2.fQ))
def Qsw (fu:Nat) (r1:Request):Option (Int) :=
  Qac (Qih fu r1) λAb=>Qac (Qoq fu r1) λAf=>bif (!Af) then some (2) else Qac (Qqk fu r1) λAc=>bif (!Ac) then some (3) else Qac (Qp0 fu r1.fT r1.fG) λAa=>bif (!Aa) then some (4) else Qac (Qau fu r1.fU (λAd=>Qpz fu Ad Ab.1)) λAh=>bif Ah then some (5) else Qac (Qay fu r1.fR (λAg=>Qqf fu Ag r1.fJ)) λAe=>bif Ae then some (6) else some (0)
def Qfq (fu:Nat) (r1:Request):Option (Bool) :=
  Qac (Qsw fu r1) λAa=>some (Aa==0)
def Qdc (fu:Nat) (Aa:List Int):Option ((List Int)) :=
  Qac (Qg8 8 (([]:List Int)) Aa) λAb=>some (Ab)
def Qkn (fu:Nat) (x1:List Int):Option (List Int):=Jjj x1
def Qk0 (fu:Nat) (Aa:List Int):Option ((List Int)) :=
  Qac (Qdc fu Aa) λx5=>Qac (Qcl fu x5) λAb=>Qac (Qkn fu Ab) λAc=>some (Ac)
def Qmh (fu:Nat)  (r1:Request) (k1:List Int→Int→Option ((List Int))) (Ab:List Int) (Aa:Int):Option ((List Int)) :=
  bif (decide (Aa<(r1.fU.length:Int))) then Qac (ix r1.fU Aa) λAe=>Qac (Qg8 8 Ab (([Ae.fL]:List Int))) λAc=>k1 Ac (w64 (Aa+1)) else Qac (Qk0 fu Ab) λAd=>some (Ad)
def Qg4 (fu:Nat)  (r1:Request):Nat→List Int→Int→Option ((List Int))
  | 0=>λ_ _=>none
  | n+1=>Qmh fu r1 (Qg4 fu r1 n)
def Qqm (fu:Nat) (r1:Request):Option ((List Int)) :=
  Qac (Qfq fu r1) λAa=>bif (!Aa) then some (([]:List Int)) else Qg4 fu r1 fu (([]:List Int)) 0
def Qrq (fu:Nat) (Aa:List Pair) (a5:Int) (b6:Int):Option (Bool) :=
  Qac (Qh4 fu Aa a5 b6) λx7=>bif x7 then Qac (Qh4 fu Aa b6 a5) λAb=>some (Ab) else some (false)
def Qj8 (fu:Nat) (x1:Int) (x2:List Pair) (x8:Int):Option (Bool) :=
  Qac (Qrq fu x2 x8 x1) λAa=>some (!Aa)
def Qeo (fu:Nat)  (Ab:List Int) (f5:Int→Option Bool) (k1:Int→Option (Int)) (Aa:Int):Option (Int) :=
  bif (decide (Aa<(Ab.length:Int))) then Qac (ix Ab Aa) λAd=>Qac (f5 Ad) λAc=>bif Ac then some (Aa) else k1 (w64 (Aa+1)) else some ((-1))
def Qcg (fu:Nat)  (Aa:List Int) (f5:Int→Option Bool):Nat→Int→Option (Int)
  | 0=>λ_=>none
  | n+1=>Qeo fu Aa f5 (Qcg fu Aa f5 n)
def Qdq (fu:Nat) (Aa:List Int) (f5:Int→Option Bool):Option (Int) :=
  Qcg fu Aa f5 fu 0
def Qcz (fu:Nat) (Aa:List Int) (f5:Int→Option Bool):Option (Bool) :=
  Qac (Qdq fu Aa f5) λAb=>some (decide (Ab≥0))
def Qod (fu:Nat) (l1:List Int) (x5:List Pair) (Ac:Int):Option (Bool) :=
  Qac (Qcz fu l1 (λAb=>Qj8 fu Ab x5 Ac)) λAa=>some (!Aa)
def Qei (fu:Nat)  (Ab:List (List Int)) (f5:(List Int)→Option Bool) (k1:Int→Option (Int)) (Aa:Int):Option (Int) :=
  bif (decide (Aa<(Ab.length:Int))) then Qac (ix Ab Aa) λAd=>Qac (f5 Ad) λAc=>bif Ac then some (Aa) else k1 (w64 (Aa+1)) else some ((-1))
def Qb5 (fu:Nat)  (Aa:List (List Int)) (f5:(List Int)→Option Bool):Nat→Int→Option (Int)
  | 0=>λ_=>none
  | n+1=>Qei fu Aa f5 (Qb5 fu Aa f5 n)
def Qdg (fu:Nat) (Aa:List (List Int)) (f5:(List Int)→Option Bool):Option (Int) :=
  Qb5 fu Aa f5 fu 0
def Qiw (fu:Nat) (k3:List (List Int)→Int→Option ((List (List Int)))) (Ab:Int) (Aa:List (List Int)):Option ((List (List Int))) :=
  k3 Aa (w64 (Ab+1))
def Qn2 (fu:Nat)  (Ag:List Pair) (Ae:(List Int)) (k3:List (List Int)→Int→Option ((List (List Int)))) (Aa:List (List Int)) (Ab:Int):Option ((List (List Int))) :=
  bif (decide (Ab<(Ae.length:Int))) then Qac (ix Ae Ab) λAc=>Qac (Qbk fu Ac 0 3) λAh=>bif (!Ah) then Qiw fu k3 Ab Aa else Qac (Qdg fu Aa (λAi=>Qod fu Ai Ag Ac)) λAd=>bif (decide (Ad<0)) then Qac (Qg8 24 Aa [([Ac]:List Int)]) λAf=>Qiw fu k3 Ab Af else Qac (ix Aa Ad) λAk=>Qac (Qg8 8 Ak (([Ac]:List Int))) λAj=>Qac (ix Aa Ad) λAl=>Qiw fu k3 Ab (Qg2 Aa Ad Aj) else some (Aa)
def Qfa (fu:Nat)  (Aa:List Pair) (Ab:(List Int)):Nat→List (List Int)→Int→Option ((List (List Int)))
  | 0=>λ_ _=>none
  | n+1=>Qn2 fu Aa Ab (Qfa fu Aa Ab n)
def Qrk (fu:Nat) (Ac:List Pair) (Ab:List Int):Option ((List (List Int))) :=
  Qac (Qk0 fu Ab) λAa=>Qfa fu Ac Aa fu (([]:List (List Int))) 0
def Qhq (fu:Nat) (r1:Request):Option ((List (List Int))) :=
  Qac (Qfq fu r1) λAa=>bif (!Aa) then some (([]:List (List Int))) else Qac (Qqm fu r1) λAb=>Qac (Qrk fu r1.fT Ab) λAc=>some (Ac)
def Qvu (fu:Nat) (x1:Int) (y2:Int):Option (Int×Int) :=
  some (IntKind.wrap .u64 ((IntKind.wrap .u64 ((IntKind.wrap .u64 ((Int.fdiv x1 (2 ^ (min 32 (IntKind.bits .u64))))*(Int.fdiv y2 (2 ^ (min 32 (IntKind.bits .u64))))))+(Int.fdiv (IntKind.wrap .u64 ((IntKind.wrap .u64 ((Int.fdiv x1 (2 ^ (min 32 (IntKind.bits .u64))))*(IntKind.wrap .u64 (((BitVec.ofInt (IntKind.bits .u64) y2 &&& BitVec.ofInt (IntKind.bits .u64) 4294967295).toNat:Nat):Int))))+(Int.fdiv (IntKind.wrap .u64 ((IntKind.wrap .u64 (((BitVec.ofInt (IntKind.bits .u64) x1 &&& BitVec.ofInt (IntKind.bits .u64) 4294967295).toNat:Nat):Int))*(IntKind.wrap .u64 (((BitVec.ofInt (IntKind.bits .u64) y2 &&& BitVec.ofInt (IntKind.bits .u64) 4294967295).toNat:Nat):Int)))) (2 ^ (min 32 (IntKind.bits .u64)))))) (2 ^ (min 32 (IntKind.bits .u64))))))+(Int.fdiv (IntKind.wrap .u64 ((IntKind.wrap .u64 (((BitVec.ofInt (IntKind.bits .u64) (IntKind.wrap .u64 ((IntKind.wrap .u64 ((Int.fdiv x1 (2 ^ (min 32 (IntKind.bits .u64))))*(IntKind.wrap .u64 (((BitVec.ofInt (IntKind.bits .u64) y2 &&& BitVec.ofInt (IntKind.bits .u64) 4294967295).toNat:Nat):Int))))+(Int.fdiv (IntKind.wrap .u64 ((IntKind.wrap .u64 (((BitVec.ofInt (IntKind.bits .u64) x1 &&& BitVec.ofInt (IntKind.bits .u64) 4294967295).toNat:Nat):Int))*(IntKind.wrap .u64 (((BitVec.ofInt (IntKind.bits .u64) y2 &&& BitVec.ofInt (IntKind.bits .u64) 4294967295).toNat:Nat):Int)))) (2 ^ (min 32 (IntKind.bits .u64)))))) &&& BitVec.ofInt (IntKind.bits .u64) 4294967295).toNat:Nat):Int))+(IntKind.wrap .u64 ((IntKind.wrap .u64 (((BitVec.ofInt (IntKind.bits .u64) x1 &&& BitVec.ofInt (IntKind.bits .u64) 4294967295).toNat:Nat):Int))*(Int.fdiv y2 (2 ^ (min 32 (IntKind.bits .u64)))))))) (2 ^ (min 32 (IntKind.bits .u64))))),IntKind.wrap .u64 (x1*y2))
def Qv2 (fu:Nat) (x1:Int) (y2:Int):Option (Int×Int) :=
  Qac (Qvu fu x1 y2) λx3=>some (x3.1,x3.2)
def Qnt (fu:Nat)   (k3:List Int→Int→Option ((List Int))) (Aa:List Int) (Ab:Int):Option ((List Int)) :=
  bif (decide (Ab<(Aa.length:Int))) then Qac (sls Aa Ab (Aa.length:Int)) λAd=>Qac (sls Aa 0 Ab) λAc=>k3 (cpd Aa Ab Ac) (w64 (Ab+(cpn Aa Ab Ac))) else some (Aa)
def Qgw (fu:Nat)   : Nat→List Int→Int→Option ((List Int))
  | 0=>λ_ _=>none
  | n+1=>Qnt fu  (Qgw fu  n)
def Qby (fu:Nat) (x1:List Int) (x8:Int×Int)  : Option ((List Int)) :=
  Qac (mk 8 (0:Int) (w64 x8.2)) λAa=>Qgw fu fu (cpd Aa 0 x1) (cpn Aa 0 x1)
def Qgy (fu:Nat) (x1:List Int) (Aa:Int)  : Option ((List Int)) :=
  Qac (Qv2 fu (IntKind.wrap .u64 (x1.length:Int)) (IntKind.wrap .u64 Aa)) λx8=>bif (decide (x8.1>0)) then none else bif (decide (x8.2>9223372036854775807)) then none else Qby fu x1 x8
def Qgg (fu:Nat) (x1:List Int) (Aa:Int):Option ((List Int)) :=
  bif (decide (Aa<0)) then none else Qgy fu x1 Aa
def Qo3 (fu:Nat)  (r1:Request) (k1:List Int→Int→Option ((List Int))) (Ab:List Int) (Aa:Int):Option ((List Int)) :=
  bif (decide (Aa<(r1.fU.length:Int))) then Qac (ix r1.fU Aa) λAc=>Qac (Qgg fu (([Aa]:List Int)) Ac.f0) λAd=>Qac (Qg8 8 Ab Ad) λAe=>k1 Ae (w64 (Aa+1)) else some (Ab)
def Qik (fu:Nat)  (r1:Request):Nat→List Int→Int→Option ((List Int))
  | 0=>λ_ _=>none
  | n+1=>Qo3 fu r1 (Qik fu r1 n)
def Qix (fu:Nat) (r1:Request):Option ((List Int)) :=
  Qac (Qfq fu r1) λAa=>bif (!Aa) then some (([]:List Int)) else Qik fu r1 fu (([]:List Int)) 0
def Qgi (fu:Nat)  (Ab:List Int) (v5:Int) (k1:Int→Option (Int)) (Aa:Int):Option (Int) :=
  bif (decide (Aa<(Ab.length:Int))) then Qac (ix Ab Aa) λAc=>bif (v5==Ac) then some (Aa) else k1 (w64 (Aa+1)) else some ((-1))
def Qda (fu:Nat)  (Aa:List Int) (v5:Int):Nat→Int→Option (Int)
  | 0=>λ_=>none
  | n+1=>Qgi fu Aa v5 (Qda fu Aa v5 n)
def Qim (fu:Nat) (Aa:List Int) (v5:Int):Option (Int) :=
  Qda fu Aa v5 fu 0
def Qc9 (fu:Nat) (Aa:List Int) (v5:Int):Option (Bool) :=
  Qac (Qim fu Aa v5) λx6=>some (decide (x6≥0))
def Qku (fu:Nat) (k3:List Int→Int→Option ((List Int))) (Ab:Int) (Aa:List Int):Option ((List Int)) :=
  k3 Aa (w64 (Ab+1))
def Ql4 (fu:Nat)  (r1:Request) (Ae:Int) (Ad:(List (List Int))) (Ac:(List Int)) (k3:List Int→Int→Option ((List Int))) (Ab:List Int) (Aa:Int):Option ((List Int)) :=
  bif (decide (Aa<(Ac.length:Int))) then Qac (ix Ac Aa) λAi=>Qac (ix Ad Ae) λAj=>Qac (ix r1.fU Ai) λAf=>Qac (Qc9 fu Aj Af.fL) λAh=>bif Ah then Qac (Qg8 8 Ab (([Aa]:List Int))) λAg=>Qku fu k3 Aa Ag else Qku fu k3 Aa Ab else some (Ab)
def Qfx (fu:Nat)  (r1:Request) (Ac:Int) (Ab:(List (List Int))) (Aa:(List Int)):Nat→List Int→Int→Option ((List Int))
  | 0=>λ_ _=>none
  | n+1=>Ql4 fu r1 Ac Ab Aa (Qfx fu r1 Ac Ab Aa n)
def Qqd (fu:Nat) (r1:Request) (Ab:Int):Option ((List Int)) :=
  Qac (Qhq fu r1) λAa=>Qac (Qbk fu Ab 0 (w64 ((Aa.length:Int) - 1))) λAd=>bif (!Ad) then some (([]:List Int)) else Qac (Qix fu r1) λAc=>Qfx fu r1 Ab Aa Ac fu (([]:List Int)) 0
def Qqt (fu:Nat) (u1:Int) (x2:Int):Option (Bool) :=
  Qac (Qbk fu u1 0 (w64 (x2 - 1))) λx5=>some (!x5)
def Qdo (fu:Nat) (k3:List Int→Int→Int→Option ((List Int))) (Ab:Int) (Ac:List Int) (Aa:Int):Option ((List Int)) :=
  k3 Ac Aa (w64 (Ab+1))
def Qeh (fu:Nat)  (f5:Int→Option Bool) (k3:List Int→Int→Int→Option ((List Int))) (Aa:List Int) (Ab:Int) (Ac:Int):Option ((List Int)) :=
  bif (decide (Ac<(Aa.length:Int))) then Qac (ix Aa Ac) λAd=>Qac (f5 Ad) λAf=>bif (!Af) then Qac (ix Aa Ab) λAh=>Qdo fu k3 Ac (Qg2 Aa Ab Ad) (w64 (Ab+1)) else Qdo fu k3 Ac Aa Ab else Qac (sls Aa Ab (Aa.length:Int)) λAg=>Qac (sls (Q5x Aa Ab) 0 Ab) λAe=>some (Ae)
def Qbp (fu:Nat)  (f5:Int→Option Bool):Nat→List Int→Int→Int→Option ((List Int))
  | 0=>λ_ _ _=>none
  | n+1=>Qeh fu f5 (Qbp fu f5 n)
def Qdf (fu:Nat) (Aa:List Int) (f5:Int→Option Bool):Option ((List Int)) :=
  Qac (Qdq fu Aa f5) λAb=>bif (Ab==((-1))) then some (Aa) else Qbp fu f5 fu Aa Ab (w64 (Ab+1))
def Qji (fu:Nat) (r1:Request) (Ae:List Int):Option ((List Int)) :=
  Qac (Qix fu r1) λAd=>Qac (Qdc fu Ae) λAc=>Qac (Qdf fu Ac (λAa=>Qqt fu Aa (Ad.length:Int))) λAb=>some (Ab)
def Qkt (fu:Nat) (k3:List Item→Int→Option ((List Item))) (Aa:Int) (Ab:List Item):Option ((List Item)) :=
  k3 Ab (w64 (Aa+1))
def Qma (fu:Nat)  (r1:Request) (Ad:List Int) (Ac:(List Int)) (k3:List Item→Int→Option ((List Item))) (Ab:List Item) (Aa:Int):Option ((List Item)) :=
  bif (decide (Aa<(Ad.length:Int))) then Qac (ix Ad Aa) λAe=>Qac (Qbk fu Ae 0 (w64 ((Ac.length:Int) - 1))) λAi=>bif Ai then Qac (ix Ac Ae) λAh=>Qac (ix r1.fU Ah) λAf=>Qac (Qg8 56 Ab (([Af]:List Item))) λAg=>Qkt fu k3 Aa Ag else Qkt fu k3 Aa Ab else some (Ab)
def Qf4 (fu:Nat)  (r1:Request) (Ab:List Int) (Aa:(List Int)):Nat→List Item→Int→Option ((List Item))
  | 0=>λ_ _=>none
  | n+1=>Qma fu r1 Ab Aa (Qf4 fu r1 Ab Aa n)
def Qh7 (fu:Nat) (r1:Request) (Ab:List Int):Option ((List Item)) :=
  Qac (Qix fu r1) λAa=>Qf4 fu r1 Ab Aa fu (([]:List Item)) 0
def Qqz (fu:Nat) (Aa:Int) (h2:Int) (d3:Int)  : Option (Int) :=
  some (w64 ((w64 (Aa*h2))*d3))
def Qpe (fu:Nat) (Aa:Int) (h2:Int) (d3:Int):Option (Int) :=
  Qac (Qbk fu Aa 0 2000) λAd=>bif (!Ad) then some (0) else Qac (Qbk fu h2 0 2000) λAb=>bif (!Ab) then some (0) else Qac (Qbk fu d3 0 2000) λAc=>bif (!Ac) then some (0) else Qqz fu Aa h2 d3
def Qjq (fu:Nat)  (Ad:(List Item)) (k1:Int→Int→Option (Int)) (Ac:Int) (Ab:Int):Option (Int) :=
  bif (decide (Ab<(Ad.length:Int))) then Qac (ix Ad Ab) λAa=>Qac (Qpe fu Aa.fW Aa.fH Aa.fD) λAe=>k1 (w64 (Ac+Ae)) (w64 (Ab+1)) else some (Ac)
def Qgc (fu:Nat)  (Aa:(List Item)):Nat→Int→Int→Option (Int)
  | 0=>λ_ _=>none
  | n+1=>Qjq fu Aa (Qgc fu Aa n)
def Qky (fu:Nat) (r1:Request) (Ab:List Int):Option (Int) :=
  Qac (Qh7 fu r1 Ab) λAa=>Qgc fu Aa fu 0 0
def Qn5 (fu:Nat)  (Ac:(List Item)) (k1:Int→Int→Option (Int)) (Ab:Int) (Aa:Int):Option (Int) :=
  bif (decide (Aa<(Ac.length:Int))) then Qac (ix Ac Aa) λAd=>k1 (w64 (Ab+Ad.fQ)) (w64 (Aa+1)) else some (Ab)
def Qhw (fu:Nat)  (Aa:(List Item)):Nat→Int→Int→Option (Int)
  | 0=>λ_ _=>none
  | n+1=>Qn5 fu Aa (Qhw fu Aa n)
def Qpl (fu:Nat) (r1:Request) (Ab:List Int):Option (Int) :=
  Qac (Qh7 fu r1 Ab) λAa=>Qhw fu Aa fu 0 0
def Qpd (fu:Nat) (r1:Request) (Aa:List Int) (t9:Typ):Option (Bool) :=
  Qac (Qky fu r1 Aa) λAb=>Qac (Qpe fu t9.fW t9.fH t9.fD) λAd=>bif (decide (Ab≤Ad)) then Qac (Qpl fu r1 Aa) λAc=>some (decide (Ac≤t9.fQ)) else some (false)
def Qsh (fu:Nat) (r1:Request) (Af:List Int) (u9:Int):Option (Bool) :=
  Qac (Qih fu r1) λAd=>Qac (Qfq fu r1) λAb=>bif Ab then Qac (Qdc fu Af) λAc=>Qac (Qg8 8 Ac (([u9]:List Int))) λAa=>Qac (Qpd fu r1 Aa Ad.1) λAe=>some (Ae) else some (false)
def Qh9 (fu:Nat) (k3:List (List Int)→Int→Option ((List (List Int)))) (Aa:Int) (Ab:List (List Int)):Option ((List (List Int))) :=
  k3 Ab (w64 (Aa+1))
def Qlf (fu:Nat)  (r1:Request) (Ae:(List Int)) (k3:List (List Int)→Int→Option ((List (List Int)))) (Aa:List (List Int)) (Ab:Int):Option ((List (List Int))) :=
  bif (decide (Ab<(Ae.length:Int))) then Qac (ix Ae Ab) λAc=>bif (decide ((w64 ((Aa.length:Int) - 1))≥0)) then Qac (ix Aa (w64 ((Aa.length:Int) - 1))) λAd=>Qac (Qsh fu r1 Ad Ac) λAh=>bif Ah then Qac (ix Aa (w64 ((Aa.length:Int) - 1))) λAj=>Qac (Qg8 8 Ad (([Ac]:List Int))) λAi=>Qac (ix Aa (w64 ((Aa.length:Int) - 1))) λAk=>Qh9 fu k3 Ab (Qg2 Aa (w64 ((Aa.length:Int) - 1)) Ai) else Qac (Qg8 24 Aa [([Ac]:List Int)]) λAf=>Qh9 fu k3 Ab Af else Qac (Qg8 24 Aa [([Ac]:List Int)]) λAg=>Qh9 fu k3 Ab Ag else some (Aa)
def Qex (fu:Nat)  (r1:Request) (Aa:(List Int)):Nat→List (List Int)→Int→Option ((List (List Int)))
  | 0=>λ_ _=>none
  | n+1=>Qlf fu r1 Aa (Qex fu r1 Aa n)
def Qqe (fu:Nat) (r1:Request) (Ab:List Int):Option ((List (List Int))) :=
  Qac (Qji fu r1 Ab) λAa=>Qex fu r1 Aa fu (([]:List (List Int))) 0
def Qnm (fu:Nat)  (n1:Int) (k1:List Int→Int→Option ((List Int))) (Ab:List Int) (Aa:Int):Option ((List Int)) :=
  bif (decide (Aa<n1)) then Qac (Qg8 8 Ab (([Aa]:List Int))) λAc=>k1 Ac (w64 (Aa+1)) else some (Ab)
def Qhx (fu:Nat)  (n1:Int):Nat→List Int→Int→Option ((List Int))
  | 0=>λ_ _=>none
  | n+1=>Qnm fu n1 (Qhx fu n1 n)
def Qlr (fu:Nat) (n1:Int):Option ((List Int)) :=
  Qhx fu n1 fu (([]:List Int)) 0
def Qp5 (fu:Nat) (a1:Int) (b2:Int):Option (Int) :=
  bif (decide (a1<b2)) then some ((-1)) else bif (decide (a1>b2)) then some (1) else some (0)
def Qfu (fu:Nat) (i1:Int) (j2:Int) (x3:List Int):Option (Int) :=
  Qac (ix x3 j2) λAb=>Qac (ix x3 i1) λAa=>Qac (Qp5 fu Ab Aa) λAc=>some (Ac)
def Qdl (fu:Nat) (Ad:List Int→Int→Option ((List Int))) (Ab:List Int) (Aa:Int)  : Option ((List Int)) :=
  Qac (ix Ab (w64 (Aa - 1))) λAc=>Qac (ix Ab Aa) λAe=>Qac (ix Ab Aa) λAg=>Qac (ix (Qg2 Ab Aa Ac) (w64 (Aa - 1))) λAf=>Ad (Qg2 (Qg2 Ab Aa Ac) (w64 (Aa - 1)) Ae) (w64 (Aa - 1))
def Qdb (fu:Nat) (k9:List Int→Int→Option ((List Int))) (a5:Int) (f7:Int→Int→Option Int) (Ac:Int) (Ae:List Int→Int→Option ((List Int))) (Aa:List Int) (Ab:Int):Option ((List Int)) :=
  bif (decide (Ab>a5)) then Qac (ix Aa Ab) λAg=>Qac (ix Aa (w64 (Ab - 1))) λAd=>Qac (f7 Ag Ad) λAf=>bif (decide (Af<0)) then Qdl fu Ae Aa Ab else k9 Aa (w64 (Ac+1)) else k9 Aa (w64 (Ac+1))
def Qbc (fu:Nat) (k9:List Int→Int→Option ((List Int))) (a5:Int) (f7:Int→Int→Option Int) (Aa:Int):Nat→List Int→Int→Option ((List Int))
  | 0=>λ_ _=>none
  | n+1=>Qdb fu k9 a5 f7 Aa (Qbc fu k9 a5 f7 Aa n)
def Qb8 (fu:Nat)  (a5:Int) (b6:Int) (f7:Int→Int→Option Int) (k9:List Int→Int→Option ((List Int))) (Ab:List Int) (Aa:Int):Option ((List Int)) :=
  bif (decide (Aa<b6)) then Qbc fu k9 a5 f7 Aa fu Ab Aa else some (Ab)
def Qao (fu:Nat)  (a5:Int) (b6:Int) (f7:Int→Int→Option Int):Nat→List Int→Int→Option ((List Int))
  | 0=>λ_ _=>none
  | n+1=>Qb8 fu a5 b6 f7 (Qao fu a5 b6 f7 n)
def Qcb (fu:Nat) (Aa:List Int) (a5:Int) (b6:Int) (f7:Int→Int→Option Int):Option ((List Int)) :=
  Qao fu a5 b6 f7 fu Aa (w64 (a5+1))
def Qh3 (fu:Nat) (x0:List Int) (x1:Int) (x2:Int) (x3:Int) (x4:Int→Int→Option Int):Option ((List Int)):=none
def Qfb (fu:Nat) (k6:List Int→Int→Option ((List Int))) (Ab:Int) (Aa:List Int):Option ((List Int)) :=
  k6 Aa (w64 (Ab*2))
def Qkg (fu:Nat) (k6:List Int→Int→Option ((List Int))) (n5:Int) (f6:Int→Int→Option Int) (Aa:Int) (k7:List Int→Int→Int→Option ((List Int))) (Ad:List Int) (Ab:Int) (Ac:Int):Option ((List Int)) :=
  bif (decide (Ac≤n5)) then Qac (Qh3 fu Ad Ab (w64 (Ab+Aa)) Ac f6) λAe=>k7 Ae Ac (w64 (Ac+(w64 (2*Aa)))) else bif (decide ((w64 (Ab+Aa))<n5)) then Qac (Qh3 fu Ad Ab (w64 (Ab+Aa)) n5 f6) λAf=>Qfb fu k6 Aa Af else Qfb fu k6 Aa Ad
def Qff (fu:Nat) (k6:List Int→Int→Option ((List Int))) (n5:Int) (f6:Int→Int→Option Int) (Aa:Int):Nat→List Int→Int→Int→Option ((List Int))
  | 0=>λ_ _ _=>none
  | n+1=>Qkg fu k6 n5 f6 Aa (Qff fu k6 n5 f6 Aa n)
def Qha (fu:Nat)  (n5:Int) (f6:Int→Int→Option Int) (k6:List Int→Int→Option ((List Int))) (Ab:List Int) (Aa:Int):Option ((List Int)) :=
  bif (decide (Aa<n5)) then Qff fu k6 n5 f6 Aa fu Ab 0 (w64 (2*Aa)) else some (Ab)
def Qce (fu:Nat)  (n5:Int) (f6:Int→Int→Option Int):Nat→List Int→Int→Option ((List Int))
  | 0=>λ_ _=>none
  | n+1=>Qha fu n5 f6 (Qce fu n5 f6 n)
def Qg7 (fu:Nat)  (n5:Int) (f6:Int→Int→Option Int) (k1:List Int→Int→Int→Option ((List Int))) (Ac:List Int) (Ab:Int) (Aa:Int):Option ((List Int)) :=
  bif (decide (Aa≤n5)) then Qac (Qcb fu Ac Ab Aa f6) λAe=>k1 Ae Aa (w64 (Aa+20)) else Qac (Qcb fu Ac Ab n5 f6) λAd=>Qce fu n5 f6 fu Ad 20
def Qdt (fu:Nat)  (n5:Int) (f6:Int→Int→Option Int):Nat→List Int→Int→Int→Option ((List Int))
  | 0=>λ_ _ _=>none
  | n+1=>Qg7 fu n5 f6 (Qdt fu n5 f6 n)
def Qgx (fu:Nat) (Aa:List Int) (n5:Int) (f6:Int→Int→Option Int):Option ((List Int)) :=
  Qdt fu n5 f6 fu Aa 0 20
def Qes (fu:Nat) (x1:List Int) (f5:Int→Int→Option Int):Option ((List Int)) :=
  Qac (Qgx fu x1 (x1.length:Int) f5) λAa=>some (Aa)
def Qho (fu:Nat) (Aa:List Int):Option ((List Int)) :=
  Qac (Qlr fu (Aa.length:Int)) λx8=>Qac (Qes fu x8 (λAd Ac=>Qfu fu Ad Ac Aa)) λAb=>some (Ab)
def Qkl (fu:Nat) (l1:List Int) (x5:Request) (Aa:Int):Option (Bool) :=
  Qac (Qsh fu x5 l1 Aa) λAb=>some (Ab)
def Qiy (fu:Nat) (k4:List (List Int)→Int→Option ((List (List Int)))) (Ab:Int) (Aa:List (List Int)):Option ((List (List Int))) :=
  k4 Aa (w64 (Ab+1))
def Qj4 (fu:Nat)  (r1:Request) (Ak:(List Int)) (Ae:(List Int)) (k4:List (List Int)→Int→Option ((List (List Int)))) (Aa:List (List Int)) (Ab:Int):Option ((List (List Int))) :=
  bif (decide (Ab<(Ae.length:Int))) then Qac (ix Ae Ab) λAj=>Qac (ix Ak Aj) λAd=>Qac (Qdg fu Aa (λAf=>Qkl fu Af r1 Ad)) λAc=>bif (decide (Ac<0)) then Qac (Qg8 24 Aa [([Ad]:List Int)]) λAi=>Qiy fu k4 Ab Ai else Qac (ix Aa Ac) λAh=>Qac (Qg8 8 Ah (([Ad]:List Int))) λAg=>Qac (ix Aa Ac) λAl=>Qiy fu k4 Ab (Qg2 Aa Ac Ag) else some (Aa)
def Qc3 (fu:Nat)  (r1:Request) (Aa:(List Int)) (Ab:(List Int)):Nat→List (List Int)→Int→Option ((List (List Int)))
  | 0=>λ_ _=>none
  | n+1=>Qj4 fu r1 Aa Ab (Qc3 fu r1 Aa Ab n)
def Qjr (fu:Nat)  (r1:Request) (Ab:(List Int)) (k1:List Int→Int→Option ((List (List Int)))) (Ac:List Int) (Aa:Int):Option ((List (List Int))) :=
  bif (decide (Aa<(Ab.length:Int))) then Qac (ix Ab Aa) λAf=>Qac (Qky fu r1 (([Af]:List Int))) λAe=>Qac (Qg8 8 Ac (([Ae]:List Int))) λAg=>k1 Ag (w64 (Aa+1)) else Qac (Qho fu Ac) λAd=>Qc3 fu r1 Ab Ad fu (([]:List (List Int))) 0
def Qgd (fu:Nat)  (r1:Request) (Aa:(List Int)):Nat→List Int→Int→Option ((List (List Int)))
  | 0=>λ_ _=>none
  | n+1=>Qjr fu r1 Aa (Qgd fu r1 Aa n)
def Qov (fu:Nat) (r1:Request) (Ab:List Int):Option ((List (List Int))) :=
  Qac (Qji fu r1 Ab) λAa=>Qgd fu r1 Aa fu (([]:List Int)) 0
def Qp2 (fu:Nat) (r1:Request) (Aa:List Int):Option ((List (List Int))) :=
  bif (r1.qY==1) then Qac (Qqe fu r1 Aa) λAb=>some (Ab) else Qac (Qov fu r1 Aa) λAc=>some (Ac)
def Qsu (fu:Nat) (x1:Item) (x2:Typ):Option (Bool) :=
  Qac (Qsk fu x1 x2) λx8=>some (!x8)
def Qsd (fu:Nat) (r1:Request) (Aa:List Int) (t9:Typ)  : Option (Bool) :=
  Qac (Qh7 fu r1 Aa) λAb=>Qac (Qau fu Ab (λAc=>Qsu fu Ac t9)) λAd=>bif (!Ad) then Qac (Qpd fu r1 Aa t9) λAe=>some (Ae) else some (false)
def Qrb (fu:Nat) (r1:Request) (Aa:List Int) (t9:Typ):Option (Bool) :=
  Qac (Qfq fu r1) λAb=>bif (!Ab) then some (false) else Qac (Qji fu r1 Aa) λAc=>bif ((Ac.length:Int) != (Aa.length:Int)) then some (false) else Qsd fu r1 Aa t9
def Qef (fu:Nat) (k3:Typ→Bool→Int→Option (Typ×Bool)) (Aa:Int) (Ab:Typ) (Ac:Bool):Option (Typ×Bool) :=
  k3 Ab Ac (w64 (Aa+1))
def Qjn (fu:Nat)  (r1:Request) (Af:List Int) (k3:Typ→Bool→Int→Option (Typ×Bool)) (Ac:Typ) (Ad:Bool) (Aa:Int):Option (Typ×Bool) :=
  bif (decide (Aa<(r1.fR.length:Int))) then Qac (ix r1.fR Aa) λAb=>Qac (Qrb fu r1 Af Ab) λAe=>bif (!Ae) then Qef fu k3 Aa Ac Ad else bif (!Ad) then Qef fu k3 Aa Ab true else bif (decide (Ab.fK<Ac.fK)) then Qef fu k3 Aa Ab true else bif (Ab.fK==Ac.fK) then bif (decide (Ab.qQ<Ac.qQ)) then Qef fu k3 Aa Ab true else Qef fu k3 Aa Ac Ad else Qef fu k3 Aa Ac Ad else some (Ac,Ad)
def Qe6 (fu:Nat)  (r1:Request) (Aa:List Int):Nat→Typ→Bool→Int→Option (Typ×Bool)
  | 0=>λ_ _ _=>none
  | n+1=>Qjn fu r1 Aa (Qe6 fu r1 Aa n)
def Qke (fu:Nat) (r1:Request) (Aa:List Int):Option (Typ×Bool) :=
  Qe6 fu r1 Aa fu (⟨0,0,0,0,0,0,0⟩:Typ) false 0
def Qi1 (fu:Nat) (k3:List Carton→Int→Option ((List Carton))) (r1:Request) (Ac:Int) (Ad:(List (List Int))) (k4:List Carton→Int→Option ((List Carton))) (Ae:List Carton) (Aa:Int):Option ((List Carton)) :=
  bif (decide (Aa<(Ad.length:Int))) then Qac (ix Ad Aa) λAb=>Qac (Qke fu r1 Ab) λAg=>Qac (Qcl fu Ab) λAh=>Qac (Qg8 40 Ae [(⟨Ag.1.qQ,Ac,Ah⟩:Carton)]) λAf=>k4 Af (w64 (Aa+1)) else k3 Ae (w64 (Ac+1))
def Qfi (fu:Nat) (k3:List Carton→Int→Option ((List Carton))) (r1:Request) (Aa:Int) (Ab:(List (List Int))):Nat→List Carton→Int→Option ((List Carton))
  | 0=>λ_ _=>none
  | n+1=>Qi1 fu k3 r1 Aa Ab (Qfi fu k3 r1 Aa Ab n)
def Qi9 (fu:Nat)  (r1:Request) (Ac:(List (List Int))) (k3:List Carton→Int→Option ((List Carton))) (Ab:List Carton) (Aa:Int):Option ((List Carton)) :=
  bif (decide (Aa<(Ac.length:Int))) then Qac (Qqd fu r1 Aa) λAd=>Qac (Qp2 fu r1 Ad) λAe=>Qfi fu k3 r1 Aa Ae fu Ab 0 else some (Ab)
def Qc8 (fu:Nat)  (r1:Request) (Aa:(List (List Int))):Nat→List Carton→Int→Option ((List Carton))
  | 0=>λ_ _=>none
  | n+1=>Qi9 fu r1 Aa (Qc8 fu r1 Aa n)
def Qmy (fu:Nat) (r1:Request):Option ((List Carton)) :=
  Qac (Qhq fu r1) λAa=>Qc8 fu r1 Aa fu (([]:List Carton)) 0
def Qrp (fu:Nat) (r1:Request) (x5:Carton) (Aa:Typ×Bool)  : Option (Int) :=
  Qac (Qpl fu r1 x5.fO) λAb=>some (w64 (Aa.1.ft+Ab))
def Qra (fu:Nat) (r1:Request) (x5:Carton):Option (Int) :=
  Qac (Qhn fu r1 x5.qJ) λAa=>bif (!Aa.2) then some (0) else Qac (Qfq fu r1) λAb=>bif (!Ab) then some (0) else Qrp fu r1 x5 Aa
def Qrg (fu:Nat) (r1:Request) (x5:Carton) (Aa:Typ×Bool)  : Option (Box) :=
  Qac (Qra fu r1 x5) λAb=>some (⟨Aa.1.fW,Aa.1.fD,Aa.1.fH,Ab⟩:Box)
def Qrc (fu:Nat) (r1:Request) (x5:Carton):Option (Box) :=
  Qac (Qhn fu r1 x5.qJ) λAa=>bif (!Aa.2) then some (⟨0,0,0,0⟩:Box) else Qac (Qfq fu r1) λAb=>bif (!Ab) then some (⟨0,0,0,0⟩:Box) else Qrg fu r1 x5 Aa
def Qmw (fu:Nat) (b1:Box) (x2:Pallet):Option (Bool) :=
  Qac (Qbk fu b1.fW 1 x2.fW) λx8=>bif (!x8) then some (true) else Qac (Qbk fu b1.fD 1 x2.fD) λAc=>bif (!Ac) then some (true) else Qac (Qbk fu b1.fH 1 x2.fH) λAa=>bif (!Aa) then some (true) else Qac (Qbk fu b1.fQ 1 x2.fQ) λAb=>some (!Ab)
def Qcv (fu:Nat)  (Ab:List Box) (f5:Box→Option Bool) (k1:Int→Option (Int)) (Aa:Int):Option (Int) :=
  bif (decide (Aa<(Ab.length:Int))) then Qac (ix Ab Aa) λAd=>Qac (f5 Ad) λAc=>bif Ac then some (Aa) else k1 (w64 (Aa+1)) else some ((-1))
def Qa4 (fu:Nat)  (Aa:List Box) (f5:Box→Option Bool):Nat→Int→Option (Int)
  | 0=>λ_=>none
  | n+1=>Qcv fu Aa f5 (Qa4 fu Aa f5 n)
def Qdm (fu:Nat) (Aa:List Box) (f5:Box→Option Bool):Option (Int) :=
  Qa4 fu Aa f5 fu 0
def Qb3 (fu:Nat) (Aa:List Box) (f5:Box→Option Bool):Option (Bool) :=
  Qac (Qdm fu Aa f5) λAb=>some (decide (Ab≥0))
def Qnh (fu:Nat) (p1:Pallet) (Ad:List Box):Option (Bool) :=
  Qac (Qe9 fu p1) λAb=>bif Ab then Qac (Qb3 fu Ad (λAc=>Qmw fu Ac p1)) λAa=>some (!Aa) else some (false)
def Qo6 (fu:Nat) (k8:List Shelf→Int→Option ((List Shelf))) (Aa:Int) (Ab:List Shelf):Option ((List Shelf)) :=
  k8 Ab (w64 (Aa+1))
def Qd7 (fu:Nat) (k8:List Shelf→Int→Option ((List Shelf))) (Ah:Int) (Aj:Int) (Ac:Box) (Ag:List Shelf) (Af:Int):Option ((List Shelf)) :=
  Qac (ix Ag Af) λAb=>Qac (Qg8 8 Ab.f9 (([Aj]:List Int))) λAd=>Qac (some ((⟨(⟨Ad,Ab.fW,Ab.fD,Ab.fH,Ab.fQ⟩:Shelf).f9,w64 (((⟨Ad,Ab.fW,Ab.fD,Ab.fH,Ab.fQ⟩:Shelf).fW)+Ac.fW),(⟨Ad,Ab.fW,Ab.fD,Ab.fH,Ab.fQ⟩:Shelf).fD,(⟨Ad,Ab.fW,Ab.fD,Ab.fH,Ab.fQ⟩:Shelf).fH,(⟨Ad,Ab.fW,Ab.fD,Ab.fH,Ab.fQ⟩:Shelf).fQ⟩:Shelf))) λAa=>Qac (some (Qg2 (Qg2 Ag Af (⟨Ad,Ab.fW,Ab.fD,Ab.fH,Ab.fQ⟩:Shelf)) Af Aa)) λAk=>Qac (some ((⟨(⟨Aa.f9,Aa.fW,if Ac.fD>Aa.fD then Ac.fD else Aa.fD,Aa.fH,Aa.fQ⟩:Shelf).f9,(⟨Aa.f9,Aa.fW,if Ac.fD>Aa.fD then Ac.fD else Aa.fD,Aa.fH,Aa.fQ⟩:Shelf).fW,(⟨Aa.f9,Aa.fW,if Ac.fD>Aa.fD then Ac.fD else Aa.fD,Aa.fH,Aa.fQ⟩:Shelf).fD,if Ac.fH>((⟨Aa.f9,Aa.fW,if Ac.fD>Aa.fD then Ac.fD else Aa.fD,Aa.fH,Aa.fQ⟩:Shelf).fH) then Ac.fH else (⟨Aa.f9,Aa.fW,if Ac.fD>Aa.fD then Ac.fD else Aa.fD,Aa.fH,Aa.fQ⟩:Shelf).fH,(⟨Aa.f9,Aa.fW,if Ac.fD>Aa.fD then Ac.fD else Aa.fD,Aa.fH,Aa.fQ⟩:Shelf).fQ⟩:Shelf))) λAe=>Qac (some (Qg2 (Qg2 Ak Af (⟨Aa.f9,Aa.fW,if Ac.fD>Aa.fD then Ac.fD else Aa.fD,Aa.fH,Aa.fQ⟩:Shelf)) Af Ae)) λAi=>Qo6 fu k8 Ah (Qg2 Ai Af (⟨Ae.f9,Ae.fW,Ae.fD,Ae.fH,w64 (Ae.fQ+Ac.fQ)⟩:Shelf))
def Qli (fu:Nat)  (p1:Pallet) (Ag:List Box) (Af:(List Int)) (k8:List Shelf→Int→Option ((List Shelf))) (Aa:List Shelf) (Ab:Int):Option ((List Shelf)) :=
  bif (decide (Ab<(Af.length:Int))) then Qac (ix Af Ab) λAd=>Qac (ix Ag Ad) λAc=>bif (decide ((w64 ((Aa.length:Int) - 1))<0)) then Qac (Qg8 56 Aa [(⟨[],0,0,0,0⟩:Shelf)]) λAj=>Qd7 fu k8 Ab Ad Ac Aj (w64 ((w64 ((Aa.length:Int) - 1))+1)) else Qac (ix Aa (w64 ((Aa.length:Int) - 1))) λAe=>bif (decide ((w64 (Ae.fW+Ac.fW))>p1.fW)) then Qac (Qg8 56 Aa [(⟨[],0,0,0,0⟩:Shelf)]) λAh=>Qd7 fu k8 Ab Ad Ac Ah (w64 ((w64 ((Aa.length:Int) - 1))+1)) else Qac (ix Aa (w64 ((Aa.length:Int) - 1))) λAk=>bif (decide ((w64 (Ae.fQ+Ac.fQ))>p1.fQ)) then Qac (Qg8 56 Aa [(⟨[],0,0,0,0⟩:Shelf)]) λAi=>Qd7 fu k8 Ab Ad Ac Ai (w64 ((w64 ((Aa.length:Int) - 1))+1)) else Qd7 fu k8 Ab Ad Ac Aa (w64 ((Aa.length:Int) - 1)) else some (Aa)
def Qb9 (fu:Nat)  (p1:Pallet) (Aa:List Box) (Ab:(List Int)):Nat→List Shelf→Int→Option ((List Shelf))
  | 0=>λ_ _=>none
  | n+1=>Qli fu p1 Aa Ab (Qb9 fu p1 Aa Ab n)
def Ql7 (fu:Nat)  (p1:Pallet) (Ab:List Box) (k1:List Int→Int→Option ((List Shelf))) (Ac:List Int) (Aa:Int):Option ((List Shelf)) :=
  bif (decide (Aa<(Ab.length:Int))) then Qac (ix Ab Aa) λAf=>Qac (Qg8 8 Ac (([Af.fD]:List Int))) λAd=>k1 Ad (w64 (Aa+1)) else Qac (Qho fu Ac) λAe=>Qb9 fu p1 Ab Ae fu (([]:List Shelf)) 0
def Qhd (fu:Nat)  (p1:Pallet) (Aa:List Box):Nat→List Int→Int→Option ((List Shelf))
  | 0=>λ_ _=>none
  | n+1=>Ql7 fu p1 Aa (Qhd fu p1 Aa n)
def Qqc (fu:Nat) (p1:Pallet) (Aa:List Box):Option ((List Shelf)) :=
  Qac (Qnh fu p1 Aa) λAb=>bif (!Ab) then some (([]:List Shelf)) else Qhd fu p1 Aa fu (([]:List Int)) 0
def Qny (fu:Nat) (Aa:Shelf) (x5:Pallet):Option (Bool) :=
  Qac (Qbk fu Aa.fD 1 x5.fD) λAd=>bif (!Ad) then some (true) else Qac (Qbk fu Aa.fH 1 x5.fH) λAb=>bif (!Ab) then some (true) else Qac (Qbk fu Aa.fQ 1 x5.fQ) λAc=>some (!Ac)
def Qca (fu:Nat)  (Ab:List Shelf) (f5:Shelf→Option Bool) (k1:Int→Option (Int)) (Aa:Int):Option (Int) :=
  bif (decide (Aa<(Ab.length:Int))) then Qac (ix Ab Aa) λAc=>Qac (f5 Ac) λAd=>bif Ad then some (Aa) else k1 (w64 (Aa+1)) else some ((-1))
def Qas (fu:Nat)  (Aa:List Shelf) (f5:Shelf→Option Bool):Nat→Int→Option (Int)
  | 0=>λ_=>none
  | n+1=>Qca fu Aa f5 (Qas fu Aa f5 n)
def Qcy (fu:Nat) (Aa:List Shelf) (f5:Shelf→Option Bool):Option (Int) :=
  Qas fu Aa f5 fu 0
def Qbq (fu:Nat) (Aa:List Shelf) (f5:Shelf→Option Bool):Option (Bool) :=
  Qac (Qcy fu Aa f5) λAb=>some (decide (Ab≥0))
def Qm7 (fu:Nat) (p1:Pallet) (Ad:List Shelf):Option (Bool) :=
  Qac (Qe9 fu p1) λAb=>bif Ab then Qac (Qbq fu Ad (λAc=>Qny fu Ac p1)) λAa=>some (!Aa) else some (false)
def Qn3 (fu:Nat) (k7:List Layer→Int→Option ((List Layer))) (Ab:Int) (Aa:List Layer):Option ((List Layer)) :=
  k7 Aa (w64 (Ab+1))
def Qdk (fu:Nat) (k7:List Layer→Int→Option ((List Layer))) (Ag:Int) (Ac:Shelf) (Af:List Layer) (Ad:Int):Option ((List Layer)) :=
  Qac (ix Af Ad) λAb=>Qac (Qg8 8 Ab.fE (([Ag]:List Int))) λAe=>Qac (some ((⟨(⟨Ae,Ab.fD,Ab.fH,Ab.fQ⟩:Layer).fE,w64 (((⟨Ae,Ab.fD,Ab.fH,Ab.fQ⟩:Layer).fD)+Ac.fD),(⟨Ae,Ab.fD,Ab.fH,Ab.fQ⟩:Layer).fH,(⟨Ae,Ab.fD,Ab.fH,Ab.fQ⟩:Layer).fQ⟩:Layer))) λAa=>Qac (some (Qg2 (Qg2 Af Ad (⟨Ae,Ab.fD,Ab.fH,Ab.fQ⟩:Layer)) Ad Aa)) λAi=>Qac (some ((⟨(⟨Aa.fE,Aa.fD,if Ac.fH>Aa.fH then Ac.fH else Aa.fH,Aa.fQ⟩:Layer).fE,(⟨Aa.fE,Aa.fD,if Ac.fH>Aa.fH then Ac.fH else Aa.fH,Aa.fQ⟩:Layer).fD,(⟨Aa.fE,Aa.fD,if Ac.fH>Aa.fH then Ac.fH else Aa.fH,Aa.fQ⟩:Layer).fH,w64 (((⟨Aa.fE,Aa.fD,if Ac.fH>Aa.fH then Ac.fH else Aa.fH,Aa.fQ⟩:Layer).fQ)+Ac.fQ)⟩:Layer))) λAj=>Qac (some (Qg2 (Qg2 Ai Ad (⟨Aa.fE,Aa.fD,if Ac.fH>Aa.fH then Ac.fH else Aa.fH,Aa.fQ⟩:Layer)) Ad Aj)) λAh=>Qn3 fu k7 Ag Ah
def Qjs (fu:Nat)  (p1:Pallet) (Ad:List Shelf) (k7:List Layer→Int→Option ((List Layer))) (Aa:List Layer) (Ac:Int):Option ((List Layer)) :=
  bif (decide (Ac<(Ad.length:Int))) then Qac (ix Ad Ac) λAb=>bif (decide ((w64 ((Aa.length:Int) - 1))<0)) then Qac (Qg8 48 Aa [(⟨[],0,0,0⟩:Layer)]) λAh=>Qdk fu k7 Ac Ab Ah (w64 ((w64 ((Aa.length:Int) - 1))+1)) else Qac (ix Aa (w64 ((Aa.length:Int) - 1))) λAe=>bif (decide ((w64 (Ae.fD+Ab.fD))>p1.fD)) then Qac (Qg8 48 Aa [(⟨[],0,0,0⟩:Layer)]) λAg=>Qdk fu k7 Ac Ab Ag (w64 ((w64 ((Aa.length:Int) - 1))+1)) else Qac (ix Aa (w64 ((Aa.length:Int) - 1))) λAi=>bif (decide ((w64 (Ae.fQ+Ab.fQ))>p1.fQ)) then Qac (Qg8 48 Aa [(⟨[],0,0,0⟩:Layer)]) λAf=>Qdk fu k7 Ac Ab Af (w64 ((w64 ((Aa.length:Int) - 1))+1)) else Qdk fu k7 Ac Ab Aa (w64 ((Aa.length:Int) - 1)) else some (Aa)
def Qcc (fu:Nat)  (p1:Pallet) (Aa:List Shelf):Nat→List Layer→Int→Option ((List Layer))
  | 0=>λ_ _=>none
  | n+1=>Qjs fu p1 Aa (Qcc fu p1 Aa n)
def Qow (fu:Nat) (p1:Pallet) (Aa:List Shelf):Option ((List Layer)) :=
  Qac (Qm7 fu p1 Aa) λAb=>bif (!Ab) then some (([]:List Layer)) else Qcc fu p1 Aa fu (([]:List Layer)) 0
def Qpa (fu:Nat) (x1:Layer) (x5:Pallet):Option (Bool) :=
  Qac (Qbk fu x1.fD 1 x5.fD) λAc=>bif (!Ac) then some (true) else Qac (Qbk fu x1.fH 1 x5.fH) λAa=>bif (!Aa) then some (true) else Qac (Qbk fu x1.fQ 1 x5.fQ) λAb=>some (!Ab)
def Qcd (fu:Nat)  (Ab:List Layer) (f5:Layer→Option Bool) (k1:Int→Option (Int)) (Aa:Int):Option (Int) :=
  bif (decide (Aa<(Ab.length:Int))) then Qac (ix Ab Aa) λAc=>Qac (f5 Ac) λAd=>bif Ad then some (Aa) else k1 (w64 (Aa+1)) else some ((-1))
def Qat (fu:Nat)  (Aa:List Layer) (f5:Layer→Option Bool):Nat→Int→Option (Int)
  | 0=>λ_=>none
  | n+1=>Qcd fu Aa f5 (Qat fu Aa f5 n)
def Qcx (fu:Nat) (Aa:List Layer) (f5:Layer→Option Bool):Option (Int) :=
  Qat fu Aa f5 fu 0
def Qbs (fu:Nat) (Aa:List Layer) (f5:Layer→Option Bool):Option (Bool) :=
  Qac (Qcx fu Aa f5) λAb=>some (decide (Ab≥0))
def Qon (fu:Nat) (p1:Pallet) (Ad:List Layer):Option (Bool) :=
  Qac (Qe9 fu p1) λAb=>bif Ab then Qac (Qbs fu Ad (λAc=>Qpa fu Ac p1)) λAa=>some (!Aa) else some (false)
def Qpt (fu:Nat) (k7:List Load→Int→Option ((List Load))) (Aa:Int) (Ab:List Load):Option ((List Load)) :=
  k7 Ab (w64 (Aa+1))
def Qd5 (fu:Nat) (k7:List Load→Int→Option ((List Load))) (Ae:Int) (Ag:Layer) (Af:List Load) (Ad:Int):Option ((List Load)) :=
  Qac (ix Af Ad) λAa=>Qac (Qg8 8 Aa.f8 (([Ae]:List Int))) λAb=>Qac (some ((⟨(⟨Ab,Aa.fH,Aa.fQ⟩:Load).f8,w64 (((⟨Ab,Aa.fH,Aa.fQ⟩:Load).fH)+Ag.fH),(⟨Ab,Aa.fH,Aa.fQ⟩:Load).fQ⟩:Load))) λAc=>Qac (some (Qg2 (Qg2 Af Ad (⟨Ab,Aa.fH,Aa.fQ⟩:Load)) Ad Ac)) λAh=>Qpt fu k7 Ae (Qg2 Ah Ad (⟨Ac.f8,Ac.fH,w64 (Ac.fQ+Ag.fQ)⟩:Load))
def Qk7 (fu:Nat)  (p1:Pallet) (Ad:List Layer) (k7:List Load→Int→Option ((List Load))) (Aa:List Load) (Ab:Int):Option ((List Load)) :=
  bif (decide (Ab<(Ad.length:Int))) then Qac (ix Ad Ab) λAc=>bif (decide ((w64 ((Aa.length:Int) - 1))<0)) then Qac (Qg8 40 Aa [(⟨[],0,0⟩:Load)]) λAg=>Qd5 fu k7 Ab Ac Ag (w64 ((w64 ((Aa.length:Int) - 1))+1)) else Qac (ix Aa (w64 ((Aa.length:Int) - 1))) λAe=>bif (decide ((w64 (Ae.fH+Ac.fH))>p1.fH)) then Qac (Qg8 40 Aa [(⟨[],0,0⟩:Load)]) λAf=>Qd5 fu k7 Ab Ac Af (w64 ((w64 ((Aa.length:Int) - 1))+1)) else Qac (ix Aa (w64 ((Aa.length:Int) - 1))) λAi=>bif (decide ((w64 (Ae.fQ+Ac.fQ))>p1.fQ)) then Qac (Qg8 40 Aa [(⟨[],0,0⟩:Load)]) λAh=>Qd5 fu k7 Ab Ac Ah (w64 ((w64 ((Aa.length:Int) - 1))+1)) else Qd5 fu k7 Ab Ac Aa (w64 ((Aa.length:Int) - 1)) else some (Aa)
def Qco (fu:Nat)  (p1:Pallet) (Aa:List Layer):Nat→List Load→Int→Option ((List Load))
  | 0=>λ_ _=>none
  | n+1=>Qk7 fu p1 Aa (Qco fu p1 Aa n)
def Qqi (fu:Nat) (p1:Pallet) (Aa:List Layer):Option ((List Load)) :=
  Qac (Qon fu p1 Aa) λAb=>bif (!Ab) then some (([]:List Load)) else Qco fu p1 Aa fu (([]:List Load)) 0
def Qlq (fu:Nat) (Al:List Spot→Int→Int→Option ((List Spot))) (Ah:List Box) (Ap:(List Shelf)) (Ag:Int) (Aj:Int) (Ae:Int) (Ak:Int) (Aq:Int) (Ad:Shelf) (Ao:List Spot→Int→Int→Option ((List Spot))) (Ac:List Spot) (Af:Int) (Aa:Int):Option ((List Spot)) :=
  bif (decide (Aa<(Ad.f9.length:Int))) then Qac (ix Ad.f9 Aa) λAb=>Qac (ix Ac Ab) λAr=>Qac (ix Ah Ab) λAm=>Ao (Qg2 Ac Ab (⟨Ag,Af,Ae,Aj⟩:Spot)) (w64 (Af+Am.fW)) (w64 (Aa+1)) else Qac (ix Ap Aq) λAi=>Al Ac (w64 (Ae+Ai.fD)) (w64 (Ak+1))
def Qg6 (fu:Nat) (Ag:List Spot→Int→Int→Option ((List Spot))) (Ab:List Box) (Ah:(List Shelf)) (Aa:Int) (Ad:Int) (Af:Int) (Ae:Int) (Ai:Int) (Ac:Shelf):Nat→List Spot→Int→Int→Option ((List Spot))
  | 0=>λ_ _ _=>none
  | n+1=>Qlq fu Ag Ab Ah Aa Ad Af Ae Ai Ac (Qg6 fu Ag Ab Ah Aa Ad Af Ae Ai Ac n)
def Qlu (fu:Nat) (Ak:List Spot→Int→Int→Option ((List Spot))) (Ai:List Box) (Ae:(List Shelf)) (Ap:(List Layer)) (Aj:Int) (Ad:Int) (Am:Int) (Aq:Int) (Ac:Layer) (Ao:List Spot→Int→Int→Option ((List Spot))) (Ab:List Spot) (Al:Int) (Aa:Int):Option ((List Spot)) :=
  bif (decide (Aa<(Ac.fE.length:Int))) then Qac (ix Ac.fE Aa) λAf=>Qac (ix Ae Af) λAg=>Qg6 fu Ao Ai Ae Aj Ad Al Aa Af Ag fu Ab 0 0 else Qac (ix Ap Aq) λAh=>Ak Ab (w64 (Ad+Ah.fH)) (w64 (Am+1))
def Qdz (fu:Nat) (Ac:List Spot→Int→Int→Option ((List Spot))) (Ab:List Box) (Ai:(List Shelf)) (Ag:(List Layer)) (Aa:Int) (Ae:Int) (Af:Int) (Ah:Int) (Ad:Layer):Nat→List Spot→Int→Int→Option ((List Spot))
  | 0=>λ_ _ _=>none
  | n+1=>Qlu fu Ac Ab Ai Ag Aa Ae Af Ah Ad (Qdz fu Ac Ab Ai Ag Aa Ae Af Ah Ad n)
def Ql2 (fu:Nat) (Ag:List Spot→Int→Option ((List Spot))) (Ah:List Box) (Al:(List Shelf)) (Ad:(List Layer)) (Ab:Int) (Ac:Load) (Ai:List Spot→Int→Int→Option ((List Spot))) (Ae:List Spot) (Ak:Int) (Aa:Int):Option ((List Spot)) :=
  bif (decide (Aa<(Ac.f8.length:Int))) then Qac (ix Ac.f8 Aa) λAf=>Qac (ix Ad Af) λAj=>Qdz fu Ai Ah Al Ad Ab Ak Aa Af Aj fu Ae 0 0 else Ag Ae (w64 (Ab+1))
def Qcm (fu:Nat) (Aa:List Spot→Int→Option ((List Spot))) (Ab:List Box) (Af:(List Shelf)) (Ae:(List Layer)) (Ac:Int) (Ad:Load):Nat→List Spot→Int→Int→Option ((List Spot))
  | 0=>λ_ _ _=>none
  | n+1=>Ql2 fu Aa Ab Af Ae Ac Ad (Qcm fu Aa Ab Af Ae Ac Ad n)
def Qk3 (fu:Nat)  (Ae:List Box) (Ah:(List Shelf)) (Ag:(List Layer)) (Ab:(List Load)) (Ad:List Spot→Int→Option ((List Spot))) (Ac:List Spot) (Aa:Int):Option ((List Spot)) :=
  bif (decide (Aa<(Ab.length:Int))) then Qac (ix Ab Aa) λAf=>Qcm fu Ad Ae Ah Ag Aa Af fu Ac 0 0 else some (Ac)
def Qbt (fu:Nat)  (Ab:List Box) (Ac:(List Shelf)) (Aa:(List Layer)) (Ad:(List Load)):Nat→List Spot→Int→Option ((List Spot))
  | 0=>λ_ _=>none
  | n+1=>Qk3 fu Ab Ac Aa Ad (Qbt fu Ab Ac Aa Ad n)
def Qnf (fu:Nat) (p1:Pallet) (Aa:List Box):Option ((List Spot)) :=
  Qac (Qnh fu p1 Aa) λAe=>bif (!Ae) then some (([]:List Spot)) else Qac (Qqc fu p1 Aa) λAc=>Qac (Qow fu p1 Ac) λAb=>Qac (mk 32 (⟨(0:Int),(0:Int),(0:Int),(0:Int)⟩:Spot) (Aa.length:Int)) λAf=>Qac (Qqi fu p1 Ab) λAd=>Qbt fu Aa Ac Ab Ad fu Af 0
def Qkc (fu:Nat) (k3:Int→Int→Option (Int)) (Aa:Int) (Ab:Int):Option (Int) :=
  k3 Ab (w64 (Aa+1))
def Qk4 (fu:Nat)  (Ad:List Spot) (k3:Int→Int→Option (Int)) (Aa:Int) (Ab:Int):Option (Int) :=
  bif (decide (Ab<(Ad.length:Int))) then Qac (ix Ad Ab) λAc=>Qac (Qbk fu Ac.fJ 0 999999) λAe=>bif Ae then Qkc fu k3 Ab (if (w64 (Ac.fJ+1))>Aa then w64 (Ac.fJ+1) else Aa) else Qkc fu k3 Ab Aa else some (Aa)
def Qfw (fu:Nat)  (Aa:List Spot):Nat→Int→Int→Option (Int)
  | 0=>λ_ _=>none
  | n+1=>Qk4 fu Aa (Qfw fu Aa n)
def Qjj (fu:Nat) (Aa:List Spot):Option (Int) :=
  Qfw fu Aa fu 0 0
def Qm2 (fu:Nat) (Ac:List Box→Int→Option (Plan×Bool)) (Aa:Int) (Ab:List Box):Option (Plan×Bool) :=
  Ac Ab (w64 (Aa+1))
def Qnn (fu:Nat) (Ai:List Spot→Int→Int→Option (Plan×Bool)) (Ad:Int) (Ag:Int) (Ac:(List Spot)) (Aj:Int) (Af:List Spot→Int→Option (Plan×Bool)) (Ae:List Spot) (Ab:Int):Option (Plan×Bool) :=
  bif (decide (Ab<(Ac.length:Int))) then Qac (ix Ac Ab) λAa=>Qac (Qg8 32 Ae (([(⟨w64 (Aa.fJ+Ad),Aa.fX,Aa.fY,Aa.fZ⟩:Spot)]:List Spot))) λAh=>Af Ah (w64 (Ab+1)) else Ai Ae (w64 (Ad+Aj)) (w64 (Ag+1))
def Qgu (fu:Nat) (Ac:List Spot→Int→Int→Option (Plan×Bool)) (Ae:Int) (Ab:Int) (Aa:(List Spot)) (Ad:Int):Nat→List Spot→Int→Option (Plan×Bool)
  | 0=>λ_ _=>none
  | n+1=>Qnn fu Ac Ae Ab Aa Ad (Qgu fu Ac Ae Ab Aa Ad n)
def Qni (fu:Nat) (Ai:List Spot→Int→Int→Option (Plan×Bool)) (r1:Request) (Ag:(List Carton)) (Ah:List Spot) (Ak:Int) (Af:Int) (Ae:List Box→Int→Option (Plan×Bool)) (Ab:List Box) (Aa:Int):Option (Plan×Bool) :=
  bif (decide (Aa<(Ag.length:Int))) then Qac (ix Ag Aa) λAd=>bif (Ad.fM==Af) then Qac (Qrc fu r1 Ad) λAm=>Qac (Qg8 32 Ab (([Am]:List Box))) λAl=>Qm2 fu Ae Aa Al else Qm2 fu Ae Aa Ab else Qac (Qnf fu r1.fJ Ab) λAc=>Qac (Qjj fu Ac) λAj=>Qgu fu Ai Ak Af Ac Aj fu Ah 0
def Qgr (fu:Nat) (Ac:List Spot→Int→Int→Option (Plan×Bool)) (r1:Request) (Ae:(List Carton)) (Aa:List Spot) (Ad:Int) (Ab:Int):Nat→List Box→Int→Option (Plan×Bool)
  | 0=>λ_ _=>none
  | n+1=>Qni fu Ac r1 Ae Aa Ad Ab (Qgr fu Ac r1 Ae Aa Ad Ab n)
def Qnu (fu:Nat)  (r1:Request) (Ac:(List Carton)) (Ad:(List (List Int))) (Ae:List Spot→Int→Int→Option (Plan×Bool)) (Aa:List Spot) (Af:Int) (Ab:Int):Option (Plan×Bool) :=
  bif (decide (Ab<(Ad.length:Int))) then Qgr fu Ae r1 Ac Aa Af Ab fu (([]:List Box)) 0 else some ((⟨Ac,Aa⟩:Plan),true)
def Qcr (fu:Nat)  (r1:Request) (Ab:(List Carton)) (Aa:(List (List Int))):Nat→List Spot→Int→Int→Option (Plan×Bool)
  | 0=>λ_ _ _=>none
  | n+1=>Qnu fu r1 Ab Aa (Qcr fu r1 Ab Aa n)
def Qr4 (fu:Nat) (r1:Request):Option (Plan×Bool) :=
  Qac (Qfq fu r1) λAc=>bif (!Ac) then some ((⟨[],[]⟩:Plan),false) else Qac (Qmy fu r1) λAa=>Qac (Qhq fu r1) λAb=>Qcr fu r1 Aa Ab fu (([]:List Spot)) 0 0
def Qko (fu:Nat) (Ab:List Int→Int→Option ((List Int))) (Aa:Int) (Ac:List Int):Option ((List Int)) :=
  Ab Ac (w64 (Aa+1))
def Qkr (fu:Nat) (Ab:Bool→Int→Option ((List Int))) (Ac:Int) (Aa:Bool):Option ((List Int)) :=
  Ab Aa (w64 (Ac+1))
def Qmn (fu:Nat) (Ac:List Int→Int→Option ((List Int))) (r1:Request) (Ae:List Int) (Aa:Int) (Ad:Bool→Int→Option ((List Int))) (Af:Bool) (Ab:Int):Option ((List Int)) :=
  bif (decide (Ab<(r1.fU.length:Int))) then bif Af then Qkr fu Ad Ab true else Qac (ix r1.fU Ab) λAg=>Qkr fu Ad Ab (Ag.fL==Aa) else bif Af then Qac (Qg8 8 Ae (([Aa]:List Int))) λAh=>Qko fu Ac Aa Ah else Qko fu Ac Aa Ae
def Qeq (fu:Nat) (Ab:List Int→Int→Option ((List Int))) (r1:Request) (Ac:List Int) (Aa:Int):Nat→Bool→Int→Option ((List Int))
  | 0=>λ_ _=>none
  | n+1=>Qmn fu Ab r1 Ac Aa (Qeq fu Ab r1 Ac Aa n)
def Ql6 (fu:Nat)  (r1:Request) (Ac:List Int→Int→Option ((List Int))) (Ab:List Int) (Aa:Int):Option ((List Int)) :=
  bif (decide (Aa<4)) then Qeq fu Ac r1 Ab Aa fu false 0 else some (Ab)
def Qdy (fu:Nat)  (r1:Request):Nat→List Int→Int→Option ((List Int))
  | 0=>λ_ _=>none
  | n+1=>Ql6 fu r1 (Qdy fu r1 n)
def Qqa (fu:Nat) (r1:Request):Option ((List Int)) :=
  Qac (Qfv fu r1) λAa=>bif (Aa != 0) then some (([]:List Int)) else Qdy fu r1 fu (([]:List Int)) 0
def Qph (fu:Nat)  (Ab:List Int) (x5:Int) (k1:Int→Option (Bool)) (Aa:Int):Option (Bool) :=
  bif (decide (Aa<(Ab.length:Int))) then Qac (ix Ab Aa) λAc=>bif (Ac==x5) then some (true) else k1 (w64 (Aa+1)) else some (false)
def Qig (fu:Nat)  (Aa:List Int) (x5:Int):Nat→Int→Option (Bool)
  | 0=>λ_=>none
  | n+1=>Qph fu Aa x5 (Qig fu Aa x5 n)
def Qq8 (fu:Nat) (Aa:List Int) (x5:Int):Option (Bool) :=
  Qig fu Aa x5 fu 0
def Qo2 (fu:Nat) (k3:Int→Option (Bool)) (Aa:Int)  : Option (Bool) :=
  k3 (w64 (Aa+1))
def Qmk (fu:Nat)  (Ac:List Pair) (Ab:List Int) (Ad:Int) (k3:Int→Option (Bool)) (Aa:Int):Option (Bool) :=
  bif (decide (Aa<(Ab.length:Int))) then Qac (ix Ab Aa) λAe=>Qac (Qf9 fu Ac Ae Ad) λAg=>bif (!Ag) then some (false) else Qac (ix Ab Aa) λAh=>Qac (Qf9 fu Ac Ad Ae) λAf=>bif (!Af) then some (false) else Qo2 fu k3 Aa else some (true)
def Qf2 (fu:Nat)  (Aa:List Pair) (Ab:List Int) (Ac:Int):Nat→Int→Option (Bool)
  | 0=>λ_=>none
  | n+1=>Qmk fu Aa Ab Ac (Qf2 fu Aa Ab Ac n)
def Qp6 (fu:Nat) (Aa:List Pair) (Ab:List Int) (Ac:Int):Option (Bool) :=
  Qf2 fu Aa Ab Ac fu 0
def Qhy (fu:Nat) (Ab:List (List Int)→Int→Option ((List (List Int)))) (Ac:Int) (Aa:List (List Int)):Option ((List (List Int))) :=
  Ab Aa (w64 (Ac+1))
def Qmv (fu:Nat) (Aa:Int→Int→Option ((List (List Int)))) (Ac:Int) (Ab:Int):Option ((List (List Int))) :=
  Aa Ab (w64 (Ac - 1))
def Qn0 (fu:Nat) (Ae:List (List Int)→Int→Option ((List (List Int)))) (Ai:List Pair) (Ab:List (List Int)) (Ad:Int) (Af:Int→Int→Option ((List (List Int)))) (Aa:Int) (Ac:Int):Option ((List (List Int))) :=
  bif (decide (Ac≥0)) then Qac (ix Ab Ac) λAg=>Qac (Qp6 fu Ai Ag Ad) λAk=>bif Ak then Qmv fu Af Ac Ac else Qmv fu Af Ac Aa else bif (decide (Aa<0)) then Qac (Qg8 24 Ab [([Ad]:List Int)]) λAl=>Qhy fu Ae Ad Al else Qac (ix Ab Aa) λAh=>Qac (Qg8 8 Ah (([Ad]:List Int))) λAj=>Qac (ix Ab Aa) λAm=>Qhy fu Ae Ad (Qg2 Ab Aa Aj)
def Qfc (fu:Nat) (Ab:List (List Int)→Int→Option ((List (List Int)))) (Aa:List Pair) (Ad:List (List Int)) (Ac:Int):Nat→Int→Int→Option ((List (List Int)))
  | 0=>λ_ _=>none
  | n+1=>Qn0 fu Ab Aa Ad Ac (Qfc fu Ab Aa Ad Ac n)
def Qn1 (fu:Nat)  (Ae:List Pair) (Ad:List Int) (Ac:List (List Int)→Int→Option ((List (List Int)))) (Aa:List (List Int)) (Ab:Int):Option ((List (List Int))) :=
  bif (decide (Ab<4)) then Qac (Qq8 fu Ad Ab) λAf=>bif (!Af) then Qhy fu Ac Ab Aa else Qfc fu Ac Ae Aa Ab fu ((-1)) (w64 ((Aa.length:Int) - 1)) else some (Aa)
def Qem (fu:Nat)  (Aa:List Pair) (Ab:List Int):Nat→List (List Int)→Int→Option ((List (List Int)))
  | 0=>λ_ _=>none
  | n+1=>Qn1 fu Aa Ab (Qem fu Aa Ab n)
def Qsc (fu:Nat) (Aa:List Pair) (Ab:List Int):Option ((List (List Int))) :=
  Qem fu Aa Ab fu (([]:List (List Int))) 0
def Qii (fu:Nat) (r1:Request):Option ((List (List Int))) :=
  Qac (Qqa fu r1) λAa=>Qac (Qsc fu r1.fT Aa) λAb=>some (Ab)
def Ql9 (fu:Nat) (k3:List Int→Int→Option ((List Int))) (r1:Request) (Aa:Int) (k4:List Int→Int→Option ((List Int))) (Ab:List Int) (Ac:Int):Option ((List Int)) :=
  Qac (ix r1.fU Aa) λAd=>bif (decide (Ac<Ad.f0)) then Qac (Qg8 8 Ab (([Aa]:List Int))) λAe=>k4 Ae (w64 (Ac+1)) else k3 Ab (w64 (Aa+1))
def Qhc (fu:Nat) (k3:List Int→Int→Option ((List Int))) (r1:Request) (Aa:Int):Nat→List Int→Int→Option ((List Int))
  | 0=>λ_ _=>none
  | n+1=>Ql9 fu k3 r1 Aa (Qhc fu k3 r1 Aa n)
def Qmc (fu:Nat)  (r1:Request) (k3:List Int→Int→Option ((List Int))) (Aa:List Int) (Ab:Int):Option ((List Int)) :=
  bif (decide (Ab<(r1.fU.length:Int))) then Qhc fu k3 r1 Ab fu Aa 0 else some (Aa)
def Qet (fu:Nat)  (r1:Request):Nat→List Int→Int→Option ((List Int))
  | 0=>λ_ _=>none
  | n+1=>Qmc fu r1 (Qet fu r1 n)
def Qdj (fu:Nat) (r1:Request):Option ((List Int)) :=
  Qet fu r1 fu (([]:List Int)) 0
def Qkb (fu:Nat) (k3:List Int→Int→Option ((List Int))) (Aa:Int) (Ab:List Int):Option ((List Int)) :=
  k3 Ab (w64 (Aa+1))
def Qlo (fu:Nat)  (r1:Request) (Ad:Int) (Aj:(List (List Int))) (Ac:(List Int)) (k3:List Int→Int→Option ((List Int))) (Ab:List Int) (Aa:Int):Option ((List Int)) :=
  bif (decide (Aa<(Ac.length:Int))) then Qac (ix Aj Ad) λAi=>Qac (ix Ac Aa) λAh=>Qac (ix r1.fU Ah) λAe=>Qac (Qq8 fu Ai Ae.fL) λAg=>bif Ag then Qac (Qg8 8 Ab (([Aa]:List Int))) λAf=>Qkb fu k3 Aa Af else Qkb fu k3 Aa Ab else some (Ab)
def Qfz (fu:Nat)  (r1:Request) (Ac:Int) (Aa:(List (List Int))) (Ab:(List Int)):Nat→List Int→Int→Option ((List Int))
  | 0=>λ_ _=>none
  | n+1=>Qlo fu r1 Ac Aa Ab (Qfz fu r1 Ac Aa Ab n)
def Qpw (fu:Nat) (r1:Request) (Aa:Int):Option ((List Int)) :=
  Qac (Qii fu r1) λAb=>Qac (Qa1 fu Aa 0 (w64 ((Ab.length:Int) - 1))) λAd=>bif (!Ad) then some (([]:List Int)) else Qac (Qdj fu r1) λAc=>Qfz fu r1 Aa Ab Ac fu (([]:List Int)) 0
def Qkx (fu:Nat) (k3:List Int→Int→Option ((List Int))) (Aa:Int) (Ab:List Int):Option ((List Int)) :=
  k3 Ab (w64 (Aa+1))
def Qmm (fu:Nat)  (Ag:List Int) (Ac:List Int) (k3:List Int→Int→Option ((List Int))) (Ab:List Int) (Aa:Int):Option ((List Int)) :=
  bif (decide (Aa<(Ac.length:Int))) then Qac (ix Ac Aa) λAd=>Qac (Qa1 fu Ad 0 (w64 ((Ag.length:Int) - 1))) λAe=>bif Ae then Qac (ix Ac Aa) λAh=>Qac (Qg8 8 Ab (([Ad]:List Int))) λAf=>Qkx fu k3 Aa Af else Qkx fu k3 Aa Ab else some (Ab)
def Qfs (fu:Nat)  (Aa:List Int) (Ab:List Int):Nat→List Int→Int→Option ((List Int))
  | 0=>λ_ _=>none
  | n+1=>Qmm fu Aa Ab (Qfs fu Aa Ab n)
def Qnd (fu:Nat) (Aa:List Int) (Ab:List Int):Option ((List Int)) :=
  Qfs fu Aa Ab fu (([]:List Int)) 0
def Qlm (fu:Nat) (r1:Request) (Aa:List Int) (u9:Int):Option (Item×Bool) :=
  Qac (Qa1 fu u9 0 (w64 ((Aa.length:Int) - 1))) λAb=>bif (!Ab) then some ((⟨0,0,0,0,0,0,0⟩:Item),false) else Qac (ix Aa u9) λAd=>Qac (ix r1.fU Ad) λAc=>some (Ac,true)
def Qq2 (fu:Nat) (Aa:Int) (h2:Int) (d3:Int)  : Option (Int) :=
  some (w64 ((w64 (Aa*h2))*d3))
def Qme (fu:Nat) (Aa:Int) (h2:Int) (d3:Int):Option (Int) :=
  Qac (Qa1 fu Aa 0 2000) λAd=>bif (!Ad) then some (0) else Qac (Qa1 fu h2 0 2000) λAb=>bif (!Ab) then some (0) else Qac (Qa1 fu d3 0 2000) λAc=>bif (!Ac) then some (0) else Qq2 fu Aa h2 d3
def Qss (fu:Nat) (k7:L7→Int→Option (L7)) (Ab:Int) (Aa:L7):Option (L7) :=
  k7 Aa (w64 (Ab+1))
def Qsp (fu:Nat) (k7:L7→Int→Option (L7)) (Ab:L7) (Ad:Int) (Aa:Item):Option (L7) :=
  Qac (Qme fu Aa.fW Aa.fH Aa.fD) λAc=>Qss fu k7 Ad (⟨w64 (Ab.fvol+Ac),w64 (Ab.fgram+Aa.fQ)⟩:L7)
def Qqr (fu:Nat)  (r1:Request) (Ad:List Int) (Ac:List Int) (k7:L7→Int→Option (L7)) (Ab:L7) (Aa:Int):Option (L7) :=
  bif (decide (Aa<(Ac.length:Int))) then Qac (ix Ac Aa) λAe=>Qac (Qlm fu r1 Ad Ae) λAf=>Qsp fu k7 Ab Aa Af.1 else some (Ab)
def Qhh (fu:Nat)  (r1:Request) (Ab:List Int) (Aa:List Int):Nat→L7→Int→Option (L7)
  | 0=>λ_ _=>none
  | n+1=>Qqr fu r1 Ab Aa (Qhh fu r1 Ab Aa n)
def Qq4 (fu:Nat) (r1:Request) (Ab:List Int) (Aa:List Int):Option (L7) :=
  Qhh fu r1 Ab Aa fu (⟨0,0⟩:L7) 0
def Qqx (fu:Nat) (m9:Typ) (Aa:L7):Option (Bool) :=
  Qac (Qme fu m9.fW m9.fH m9.fD) λAb=>bif (decide (Aa.fvol≤Ab)) then some (decide (Aa.fgram≤m9.fQ)) else some (false)
def Qo5 (fu:Nat) (r1:Request) (Ab:List Int) (m9:Typ) (Af:List Int) (Ac:Int):Option (Bool) :=
  Qac (Qg8 8 (([]:List Int)) Af) λAe=>Qac (Qg8 8 Ae (([Ac]:List Int))) λAa=>Qac (Qq4 fu r1 Ab Aa) λAd=>Qqx fu m9 Ad
def Qiu (fu:Nat) (k3:List (List Int)→Int→Option ((List (List Int)))) (Aa:Int) (Ab:List (List Int)):Option ((List (List Int))) :=
  k3 Ab (w64 (Aa+1))
def Qnx (fu:Nat)  (r1:Request) (Ac:List Int) (Aj:Typ×Bool) (Ag:(List Int)) (k3:List (List Int)→Int→Option ((List (List Int)))) (Aa:List (List Int)) (Ab:Int):Option ((List (List Int))) :=
  bif (decide (Ab<(Ac.length:Int))) then bif (decide ((Aa.length:Int)>0)) then Qac (ix Aa (w64 ((Aa.length:Int) - 1))) λAe=>Qac (ix Ac Ab) λAd=>Qac (Qo5 fu r1 Ag Aj.1 Ae Ad) λAi=>bif Ai then Qac (ix Aa (w64 ((Aa.length:Int) - 1))) λAm=>Qac (ix Ac Ab) λAq=>Qac (Qg8 8 Ae (([Ad]:List Int))) λAf=>Qac (ix Aa (w64 ((Aa.length:Int) - 1))) λAo=>Qiu fu k3 Ab (Qg2 Aa (w64 ((Aa.length:Int) - 1)) Af) else Qac (ix Ac Ab) λAp=>Qac (Qg8 24 Aa [([Ad]:List Int)]) λAh=>Qiu fu k3 Ab Ah else Qac (ix Ac Ab) λAk=>Qac (Qg8 24 Aa [([Ak]:List Int)]) λAl=>Qiu fu k3 Ab Al else some (Aa)
def Qgo (fu:Nat)  (r1:Request) (Ac:List Int) (Ab:Typ×Bool) (Aa:(List Int)):Nat→List (List Int)→Int→Option ((List (List Int)))
  | 0=>λ_ _=>none
  | n+1=>Qnx fu r1 Ac Ab Aa (Qgo fu r1 Ac Ab Aa n)
def Qtg (fu:Nat) (r1:Request) (Ac:List Int):Option ((List (List Int))) :=
  Qac (Qf6 fu r1) λAb=>Qac (Qdj fu r1) λAa=>Qgo fu r1 Ac Ab Aa fu (([]:List (List Int))) 0
def Qp3 (fu:Nat) (r1:Request) (Ad:List Int):Option ((List (List Int))) :=
  Qac (Qfv fu r1) λAc=>bif (Ac != 0) then some (([]:List (List Int))) else Qac (Qdj fu r1) λAb=>Qac (Qnd fu Ab Ad) λAe=>Qac (Qtg fu r1 Ae) λAa=>some (Aa)
def Qhp (fu:Nat) (Aa:List Int):Option ((List Int)) :=
  Qac (Qkj fu (Aa.length:Int)) λx5=>Qac (Qp7 fu Aa x5 true) λAb=>some (Ab)
def Qks (fu:Nat) (Ac:List (List Int)→Int→Option ((List (List Int)))) (Ab:Int) (Aa:List (List Int)):Option ((List (List Int))) :=
  Ac Aa (w64 (Ab+1))
def Qkp (fu:Nat) (Ac:Int→Int→Option ((List (List Int)))) (Ab:Int) (Aa:Int):Option ((List (List Int))) :=
  Ac Aa (w64 (Ab - 1))
def Qly (fu:Nat) (Ag:List (List Int)→Int→Option ((List (List Int)))) (r1:Request) (Am:Typ×Bool) (Ai:(List Int)) (Ac:List (List Int)) (Ae:Int) (Ad:Int) (Af:Int→Int→Option ((List (List Int)))) (Aa:Int) (Ab:Int):Option ((List (List Int))) :=
  bif (decide (Ab≥0)) then Qac (ix Ac Ab) λAj=>Qac (Qo5 fu r1 Ai Am.1 Aj Ad) λAo=>bif Ao then Qkp fu Af Ab Ab else Qkp fu Af Ab Aa else bif (decide (Aa<0)) then Qac (Qg8 24 Ac [([Ad]:List Int)]) λAh=>Qks fu Ag Ae Ah else Qac (ix Ac Aa) λAl=>Qac (Qg8 8 Al (([Ad]:List Int))) λAk=>Qac (ix Ac Aa) λAp=>Qks fu Ag Ae (Qg2 Ac Aa Ak)
def Qfn (fu:Nat) (Ae:List (List Int)→Int→Option ((List (List Int)))) (r1:Request) (Ad:Typ×Bool) (Ab:(List Int)) (Af:List (List Int)) (Aa:Int) (Ac:Int):Nat→Int→Int→Option ((List (List Int)))
  | 0=>λ_ _=>none
  | n+1=>Qly fu Ae r1 Ad Ab Af Aa Ac (Qfn fu Ae r1 Ad Ab Af Aa Ac n)
def Qll (fu:Nat)  (r1:Request) (Ah:List Int) (Af:Typ×Bool) (Ad:(List Int)) (Ac:(List Int)) (Ag:List (List Int)→Int→Option ((List (List Int)))) (Ab:List (List Int)) (Aa:Int):Option ((List (List Int))) :=
  bif (decide (Aa<(Ac.length:Int))) then Qac (ix Ac Aa) λAe=>Qac (ix Ah Ae) λAi=>Qfn fu Ag r1 Af Ad Ab Aa Ai fu ((-1)) (w64 ((Ab.length:Int) - 1)) else some (Ab)
def Qc0 (fu:Nat)  (r1:Request) (Ad:List Int) (Ac:Typ×Bool) (Ab:(List Int)) (Aa:(List Int)):Nat→List (List Int)→Int→Option ((List (List Int)))
  | 0=>λ_ _=>none
  | n+1=>Qll fu r1 Ad Ac Ab Aa (Qc0 fu r1 Ad Ac Ab Aa n)
def Qlv (fu:Nat)  (r1:Request) (Ab:List Int) (Ah:Typ×Bool) (Ac:(List Int)) (k1:List Int→Int→Option ((List (List Int)))) (Ad:List Int) (Aa:Int):Option ((List (List Int))) :=
  bif (decide (Aa<(Ab.length:Int))) then Qac (sls Ab Aa (w64 (Aa+1))) λAg=>Qac (Qq4 fu r1 Ac Ag) λAe=>Qac (Qg8 8 Ad (([Ae.fvol]:List Int))) λAf=>k1 Af (w64 (Aa+1)) else Qac (Qhp fu Ad) λAi=>Qc0 fu r1 Ab Ah Ac Ai fu (([]:List (List Int))) 0
def Qg9 (fu:Nat)  (r1:Request) (Ac:List Int) (Ab:Typ×Bool) (Aa:(List Int)):Nat→List Int→Int→Option ((List (List Int)))
  | 0=>λ_ _=>none
  | n+1=>Qlv fu r1 Ac Ab Aa (Qg9 fu r1 Ac Ab Aa n)
def Qso (fu:Nat) (r1:Request) (Ac:List Int):Option ((List (List Int))) :=
  Qac (Qf6 fu r1) λAb=>Qac (Qdj fu r1) λAa=>Qg9 fu r1 Ac Ab Aa fu (([]:List Int)) 0
def Qok (fu:Nat) (r1:Request) (Ad:List Int):Option ((List (List Int))) :=
  Qac (Qfv fu r1) λAc=>bif (Ac != 0) then some (([]:List (List Int))) else Qac (Qdj fu r1) λAb=>Qac (Qnd fu Ab Ad) λAe=>Qac (Qso fu r1 Ae) λAa=>some (Aa)
def Qp1 (fu:Nat) (r1:Request) (Aa:List Int):Option ((List (List Int))) :=
  bif (r1.qY==1) then Qac (Qp3 fu r1 Aa) λAb=>some (Ab) else Qac (Qok fu r1 Aa) λAc=>some (Ac)
def Qrx (fu:Nat) (r1:Request) (Ad:List Int) (t9:Typ) (Ab:(List Int))  : Option (Bool) :=
  Qac (Qq4 fu r1 Ab Ad) λAa=>Qac (Qme fu t9.fW t9.fH t9.fD) λAc=>bif (decide (Aa.fvol≤Ac)) then some (decide (Aa.fgram≤t9.fQ)) else some (false)
def Qrn (fu:Nat) (Aa:Int→Option (Bool)) (Ab:Int)  : Option (Bool) :=
  Aa (w64 (Ab+1))
def Qrs (fu:Nat) (Ae:Int→Option (Bool)) (t9:Typ) (Ad:Int) (Ac:Item) (Ab:Bool):Option (Bool) :=
  bif (!Ab) then some (false) else Qac (Qq5 fu Ac t9) λAa=>bif (!Aa) then some (false) else Qrn fu Ae Ad
def Qpn (fu:Nat)  (r1:Request) (Ab:List Int) (t9:Typ) (Ac:(List Int)) (Ae:Int→Option (Bool)) (Aa:Int):Option (Bool) :=
  bif (decide (Aa<(Ab.length:Int))) then Qac (ix Ab Aa) λAf=>Qac (Qlm fu r1 Ac Af) λAd=>Qrs fu Ae t9 Aa Ad.1 Ad.2 else Qrx fu r1 Ab t9 Ac
def Qge (fu:Nat)  (r1:Request) (Ab:List Int) (t9:Typ) (Aa:(List Int)):Nat→Int→Option (Bool)
  | 0=>λ_=>none
  | n+1=>Qpn fu r1 Ab t9 Aa (Qge fu r1 Ab t9 Aa n)
def Qsv (fu:Nat) (r1:Request) (Ac:List Int) (t9:Typ):Option (Bool) :=
  Qac (Qfv fu r1) λAa=>bif (Aa != 0) then some (false) else Qac (Qdj fu r1) λAb=>Qge fu r1 Ac t9 Ab fu 0
def Qea (fu:Nat) (k3:Typ→Bool→Int→Option (Typ×Bool)) (Ac:Int) (Ab:Typ) (Aa:Bool):Option (Typ×Bool) :=
  k3 Ab Aa (w64 (Ac+1))
def Qj6 (fu:Nat)  (r1:Request) (Af:List Int) (k3:Typ→Bool→Int→Option (Typ×Bool)) (Ac:Typ) (Ad:Bool) (Aa:Int):Option (Typ×Bool) :=
  bif (decide (Aa<(r1.fR.length:Int))) then Qac (ix r1.fR Aa) λAb=>Qac (Qsv fu r1 Af Ab) λAe=>bif (!Ae) then Qea fu k3 Aa Ac Ad else bif (!Ad) then Qea fu k3 Aa Ab true else bif (decide (Ab.fK<Ac.fK)) then Qea fu k3 Aa Ab true else bif (Ab.fK==Ac.fK) then bif (decide (Ab.qQ<Ac.qQ)) then Qea fu k3 Aa Ab true else Qea fu k3 Aa Ac Ad else Qea fu k3 Aa Ac Ad else some (Ac,Ad)
def Qe1 (fu:Nat)  (r1:Request) (Aa:List Int):Nat→Typ→Bool→Int→Option (Typ×Bool)
  | 0=>λ_ _ _=>none
  | n+1=>Qj6 fu r1 Aa (Qe1 fu r1 Aa n)
def Qoi (fu:Nat) (r1:Request) (Aa:List Int):Option (Typ×Bool) :=
  Qe1 fu r1 Aa fu (⟨0,0,0,0,0,0,0⟩:Typ) false 0
def Qk9 (fu:Nat) (Ac:List Carton→Int→Option ((List Carton))) (Ab:Int) (Aa:List Carton):Option ((List Carton)) :=
  Ac Aa (w64 (Ab+1))
def Qif (fu:Nat) (Ac:List Carton→Int→Option ((List Carton))) (Ab:Int) (Aa:List Carton):Option ((List Carton)) :=
  Ac Aa (w64 (Ab+1))
def Qjd (fu:Nat) (Ap:List Carton→Int→Option ((List Carton))) (Aj:Int) (Ak:(List (List Int))) (Af:List Carton) (Ac:Int) (Ao:Typ) (Ad:(List Int)) (Am:List Int→Int→Option ((List Carton))) (Ab:List Int) (Aa:Int):Option ((List Carton)) :=
  bif (decide (Aa<(Ad.length:Int))) then Qac (ix Ak Ac) λAe=>Qac (ix Ad Aa) λAg=>Qac (ix Ae Ag) λAh=>Qac (Qg8 8 Ab (([Ah]:List Int))) λAl=>Am Al (w64 (Aa+1)) else Qac (Qg8 40 Af [(⟨Ao.qQ,Aj,Ab⟩:Carton)]) λAi=>Qif fu Ap Ac Ai
def Qfm (fu:Nat) (Ag:List Carton→Int→Option ((List Carton))) (Ab:Int) (Ad:(List (List Int))) (Aa:List Carton) (Ac:Int) (Ae:Typ) (Af:(List Int)):Nat→List Int→Int→Option ((List Carton))
  | 0=>λ_ _=>none
  | n+1=>Qjd fu Ag Ab Ad Aa Ac Ae Af (Qfm fu Ag Ab Ad Aa Ac Ae Af n)
def Ql0 (fu:Nat) (Ah:List Carton→Int→Option ((List Carton))) (Ae:Int) (Ab:(List (List Int))) (Ac:List Carton) (Aa:Int) (Af:Typ):Option ((List Carton)) :=
  Qac (ix Ab Aa) λAd=>Qac (Qpo fu Ad) λAg=>Qfm fu Ah Ae Ab Ac Aa Af Ag fu (([]:List Int)) 0
def Qjb (fu:Nat) (Ag:List Carton→Int→Option ((List Carton))) (r1:Request) (Ad:Int) (Ab:(List (List Int))) (Ah:List Carton→Int→Option ((List Carton))) (Ac:List Carton) (Aa:Int):Option ((List Carton)) :=
  bif (decide (Aa<(Ab.length:Int))) then Qac (ix Ab Aa) λAe=>Qac (Qoi fu r1 Ae) λAf=>Ql0 fu Ah Ad Ab Ac Aa Af.1 else Qk9 fu Ag Ad Ac
def Qcf (fu:Nat) (Ac:List Carton→Int→Option ((List Carton))) (r1:Request) (Aa:Int) (Ab:(List (List Int))):Nat→List Carton→Int→Option ((List Carton))
  | 0=>λ_ _=>none
  | n+1=>Qjb fu Ac r1 Aa Ab (Qcf fu Ac r1 Aa Ab n)
def Qjc (fu:Nat)  (r1:Request) (Ad:(List (List Int))) (Af:List Carton→Int→Option ((List Carton))) (Ab:List Carton) (Aa:Int):Option ((List Carton)) :=
  bif (decide (Aa<(Ad.length:Int))) then Qac (Qpw fu r1 Aa) λAc=>Qac (Qp1 fu r1 Ac) λAe=>Qcf fu Af r1 Aa Ae fu Ab 0 else some (Ab)
def Qbh (fu:Nat)  (r1:Request) (Aa:(List (List Int))):Nat→List Carton→Int→Option ((List Carton))
  | 0=>λ_ _=>none
  | n+1=>Qjc fu r1 Aa (Qbh fu r1 Aa n)
def Qmt (fu:Nat) (r1:Request):Option ((List Carton)) :=
  Qac (Qii fu r1) λAa=>Qbh fu r1 Aa fu (([]:List Carton)) 0
def Qjw (fu:Nat)  (r1:Request) (Ac:Int) (k1:Int→Option (Typ×Bool)) (Aa:Int):Option (Typ×Bool) :=
  bif (decide (Aa<(r1.fR.length:Int))) then Qac (ix r1.fR Aa) λAb=>bif (Ab.qQ==Ac) then Qac (ix r1.fR Aa) λAd=>some (Ab,true) else k1 (w64 (Aa+1)) else some ((⟨0,0,0,0,0,0,0⟩:Typ),false)
def Qgf (fu:Nat)  (r1:Request) (Aa:Int):Nat→Int→Option (Typ×Bool)
  | 0=>λ_=>none
  | n+1=>Qjw fu r1 Aa (Qgf fu r1 Aa n)
def Qkf (fu:Nat) (r1:Request) (Aa:Int):Option (Typ×Bool) :=
  Qgf fu r1 Aa fu 0
def Qsx (fu:Nat) (r1:Request):Option ((List Int)) :=
  Qac (Qfv fu r1) λAa=>bif (Aa != 0) then some (([]:List Int)) else Qac (Qdj fu r1) λAb=>some (Ab)
def Qqn (fu:Nat) (k7:Int→Int→Option (Int)) (Aa:Int) (Ab:Int):Option (Int) :=
  k7 Ab (w64 (Aa+1))
def Qqu (fu:Nat) (k7:Int→Int→Option (Int)) (Ab:Int) (Aa:Int) (Ac:Item):Option (Int) :=
  Qqn fu k7 Aa (w64 (Ab+Ac.fQ))
def Qnz (fu:Nat)  (r1:Request) (Ac:List Int) (Ae:(List Int)) (k7:Int→Int→Option (Int)) (Ab:Int) (Aa:Int):Option (Int) :=
  bif (decide (Aa<(Ac.length:Int))) then Qac (ix Ac Aa) λAd=>Qac (Qlm fu r1 Ae Ad) λAf=>Qqu fu k7 Ab Aa Af.1 else some (Ab)
def Qfe (fu:Nat)  (r1:Request) (Ab:List Int) (Aa:(List Int)):Nat→Int→Int→Option (Int)
  | 0=>λ_ _=>none
  | n+1=>Qnz fu r1 Ab Aa (Qfe fu r1 Ab Aa n)
def Qr2 (fu:Nat) (r1:Request) (Ab:List Int):Option (Int) :=
  Qac (Qsx fu r1) λAa=>Qfe fu r1 Ab Aa fu 0 0
def Qrf (fu:Nat) (r1:Request) (x5:Carton) (Aa:Typ×Bool)  : Option (Int) :=
  Qac (Qr2 fu r1 x5.fO) λAb=>some (w64 (Aa.1.ft+Ab))
def Qsy (fu:Nat) (r1:Request) (x5:Carton):Option (Int) :=
  Qac (Qkf fu r1 x5.qJ) λAa=>Qac (Qfv fu r1) λAb=>bif (Ab != 0) then some (0) else bif (!Aa.2) then some (0) else Qrf fu r1 x5 Aa
def Qro (fu:Nat) (r1:Request) (x5:Carton) (Aa:Typ×Bool)  : Option (Box) :=
  Qac (Qsy fu r1 x5) λAb=>some (⟨Aa.1.fW,Aa.1.fD,Aa.1.fH,Ab⟩:Box)
def Qs1 (fu:Nat) (r1:Request) (x5:Carton):Option (Box) :=
  Qac (Qkf fu r1 x5.qJ) λAa=>Qac (Qfv fu r1) λAb=>bif (Ab != 0) then some (⟨0,0,0,0⟩:Box) else bif (!Aa.2) then some (⟨0,0,0,0⟩:Box) else Qro fu r1 x5 Aa
def Qpm (fu:Nat) (k3:Int→Option (Bool)) (Aa:Int)  : Option (Bool) :=
  k3 (w64 (Aa+1))
def Qmd (fu:Nat)  (p1:Pallet) (Ac:List Box) (k3:Int→Option (Bool)) (Ab:Int):Option (Bool) :=
  bif (decide (Ab<(Ac.length:Int))) then Qac (ix Ac Ab) λAa=>Qac (Qa1 fu Aa.fW 1 p1.fW) λAg=>bif (!Ag) then some (false) else Qac (Qa1 fu Aa.fD 1 p1.fD) λAe=>bif (!Ae) then some (false) else Qac (Qa1 fu Aa.fH 1 p1.fH) λAd=>bif (!Ad) then some (false) else Qac (Qa1 fu Aa.fQ 1 p1.fQ) λAf=>bif (!Af) then some (false) else Qpm fu k3 Ab else some (true)
def Qf1 (fu:Nat)  (p1:Pallet) (Aa:List Box):Nat→Int→Option (Bool)
  | 0=>λ_=>none
  | n+1=>Qmd fu p1 Aa (Qf1 fu p1 Aa n)
def Qng (fu:Nat) (p1:Pallet) (Aa:List Box):Option (Bool) :=
  Qac (Qhl fu p1) λAb=>bif (!Ab) then some (false) else Qf1 fu p1 Aa fu 0
def Qk1 (fu:Nat) (a1:Int) (b2:Int):Option (Int) :=
  bif (decide (a1>b2)) then some (a1) else some (b2)
def Qhi (fu:Nat) (Aa:Shelf) (Af:Int) (b6:Box):Option (Shelf) :=
  Qac (Qg8 8 (([]:List Int)) Aa.f9) λAd=>Qac (Qg8 8 Ad (([Af]:List Int))) λAb=>Qac (Qk1 fu Aa.fD b6.fD) λAe=>Qac (Qk1 fu Aa.fH b6.fH) λAc=>some (⟨Ab,w64 (Aa.fW+b6.fW),Ae,Ac,w64 (Aa.fQ+b6.fQ)⟩:Shelf)
def Qg5 (fu:Nat) (k4:List Shelf→Int→Option ((List Shelf))) (Ab:Int) (Aa:List Shelf):Option ((List Shelf)) :=
  k4 Aa (w64 (Ab+1))
def Ql5 (fu:Nat)  (p1:Pallet) (Ah:List Box) (Ac:(List Int)) (k4:List Shelf→Int→Option ((List Shelf))) (Aa:List Shelf) (Ab:Int):Option ((List Shelf)) :=
  bif (decide (Ab<(Ac.length:Int))) then Qac (ix Ac Ab) λAe=>Qac (ix Ah Ae) λAd=>bif (decide ((Aa.length:Int)>0)) then Qac (ix Aa (w64 ((Aa.length:Int) - 1))) λAf=>bif (decide ((w64 (Af.fW+Ad.fW))≤p1.fW)) then Qac (ix Aa (w64 ((Aa.length:Int) - 1))) λAp=>bif (decide ((w64 (Af.fQ+Ad.fQ))≤p1.fQ)) then Qac (ix Aa (w64 ((Aa.length:Int) - 1))) λAv=>Qac (ix Ac Ab) λAt=>Qac (Qhi fu Af Ae Ad) λAl=>Qac (ix Aa (w64 ((Aa.length:Int) - 1))) λAr=>Qg5 fu k4 Ab (Qg2 Aa (w64 ((Aa.length:Int) - 1)) Al) else Qac (ix Ac Ab) λAq=>Qac (Qhi fu (⟨[],0,0,0,0⟩:Shelf) Ae Ad) λAo=>Qac (Qg8 56 Aa [Ao]) λAm=>Qg5 fu k4 Ab Am else Qac (ix Ac Ab) λAu=>Qac (Qhi fu (⟨[],0,0,0,0⟩:Shelf) Ae Ad) λAj=>Qac (Qg8 56 Aa [Aj]) λAk=>Qg5 fu k4 Ab Ak else Qac (ix Ac Ab) λAs=>Qac (Qhi fu (⟨[],0,0,0,0⟩:Shelf) Ae Ad) λAg=>Qac (Qg8 56 Aa [Ag]) λAi=>Qg5 fu k4 Ab Ai else some (Aa)
def Qeu (fu:Nat)  (p1:Pallet) (Ab:List Box) (Aa:(List Int)):Nat→List Shelf→Int→Option ((List Shelf))
  | 0=>λ_ _=>none
  | n+1=>Ql5 fu p1 Ab Aa (Qeu fu p1 Ab Aa n)
def Ql1 (fu:Nat)  (p1:Pallet) (Ab:List Box) (k1:List Int→Int→Option ((List Shelf))) (Ac:List Int) (Aa:Int):Option ((List Shelf)) :=
  bif (decide (Aa<(Ab.length:Int))) then Qac (ix Ab Aa) λAf=>Qac (Qg8 8 Ac (([Af.fD]:List Int))) λAe=>k1 Ae (w64 (Aa+1)) else Qac (Qhp fu Ac) λAd=>Qeu fu p1 Ab Ad fu (([]:List Shelf)) 0
def Qhe (fu:Nat)  (p1:Pallet) (Aa:List Box):Nat→List Int→Int→Option ((List Shelf))
  | 0=>λ_ _=>none
  | n+1=>Ql1 fu p1 Aa (Qhe fu p1 Aa n)
def Qp8 (fu:Nat) (p1:Pallet) (Aa:List Box):Option ((List Shelf)) :=
  Qac (Qng fu p1 Aa) λAb=>bif (!Ab) then some (([]:List Shelf)) else Qhe fu p1 Aa fu (([]:List Int)) 0
def Qrd (fu:Nat) (p1:Pallet) (d2:Int) (h3:Int) (Aa:Int):Option (Bool) :=
  Qac (Qa1 fu d2 1 p1.fD) λx8=>bif x8 then Qac (Qa1 fu h3 1 p1.fH) λAc=>bif Ac then Qac (Qa1 fu Aa 1 p1.fQ) λAb=>some (Ab) else some (false) else some (false)
def Qjg (fu:Nat)  (p1:Pallet) (Ab:List Shelf) (k1:Int→Option (Bool)) (Aa:Int):Option (Bool) :=
  bif (decide (Aa<(Ab.length:Int))) then Qac (ix Ab Aa) λAc=>Qac (ix Ab Aa) λAf=>Qac (ix Ab Aa) λAe=>Qac (Qrd fu p1 Ac.fD Ac.fH Ac.fQ) λAd=>bif (!Ad) then some (false) else k1 (w64 (Aa+1)) else some (true)
def Qfl (fu:Nat)  (p1:Pallet) (Aa:List Shelf):Nat→Int→Option (Bool)
  | 0=>λ_=>none
  | n+1=>Qjg fu p1 Aa (Qfl fu p1 Aa n)
def Qm1 (fu:Nat) (p1:Pallet) (Aa:List Shelf):Option (Bool) :=
  Qac (Qhl fu p1) λAb=>bif (!Ab) then some (false) else Qfl fu p1 Aa fu 0
def Qnv (fu:Nat) (k7:List Layer→Int→Option ((List Layer))) (Aa:Int) (Ab:List Layer):Option ((List Layer)) :=
  k7 Ab (w64 (Aa+1))
def Qdn (fu:Nat) (k7:List Layer→Int→Option ((List Layer))) (Ae:Int) (Ac:Shelf) (Ad:List Layer) (Ab:Int):Option ((List Layer)) :=
  Qac (ix Ad (w64 (Ab - 1))) λAa=>Qac (Qg8 8 (([]:List Int)) Aa.fE) λAg=>Qac (Qg8 8 Ag (([Ae]:List Int))) λAf=>Qac (Qk1 fu Aa.fH Ac.fH) λAh=>Qac (ix Ad (w64 (Ab - 1))) λAi=>Qnv fu k7 Ae (Qg2 Ad (w64 (Ab - 1)) (⟨Af,w64 (Aa.fD+Ac.fD),Ah,w64 (Aa.fQ+Ac.fQ)⟩:Layer))
def Qjv (fu:Nat)  (p1:Pallet) (Ae:List Shelf) (k7:List Layer→Int→Option ((List Layer))) (Aa:List Layer) (Ac:Int):Option ((List Layer)) :=
  bif (decide (Ac<(Ae.length:Int))) then Qac (ix Ae Ac) λAb=>bif ((Aa.length:Int)==0) then Qac (Qg8 48 Aa [(⟨[],0,0,0⟩:Layer)]) λAh=>Qdn fu k7 Ac Ab Ah (w64 ((Aa.length:Int)+1)) else Qac (ix Aa (w64 ((Aa.length:Int) - 1))) λAd=>bif (decide ((w64 (Ad.fD+Ab.fD))>p1.fD)) then Qac (Qg8 48 Aa [(⟨[],0,0,0⟩:Layer)]) λAg=>Qdn fu k7 Ac Ab Ag (w64 ((Aa.length:Int)+1)) else Qac (ix Aa (w64 ((Aa.length:Int) - 1))) λAi=>bif (decide ((w64 (Ad.fQ+Ab.fQ))>p1.fQ)) then Qac (Qg8 48 Aa [(⟨[],0,0,0⟩:Layer)]) λAf=>Qdn fu k7 Ac Ab Af (w64 ((Aa.length:Int)+1)) else Qdn fu k7 Ac Ab Aa (Aa.length:Int) else some (Aa)
def Qbr (fu:Nat)  (p1:Pallet) (Aa:List Shelf):Nat→List Layer→Int→Option ((List Layer))
  | 0=>λ_ _=>none
  | n+1=>Qjv fu p1 Aa (Qbr fu p1 Aa n)
def Qor (fu:Nat) (p1:Pallet) (Aa:List Shelf):Option ((List Layer)) :=
  Qac (Qm1 fu p1 Aa) λAb=>bif (!Ab) then some (([]:List Layer)) else Qbr fu p1 Aa fu (([]:List Layer)) 0
def Qjt (fu:Nat)  (p1:Pallet) (Ab:List Layer) (k1:Int→Option (Bool)) (Aa:Int):Option (Bool) :=
  bif (decide (Aa<(Ab.length:Int))) then Qac (ix Ab Aa) λAc=>Qac (ix Ab Aa) λAf=>Qac (ix Ab Aa) λAe=>Qac (Qrd fu p1 Ac.fD Ac.fH Ac.fQ) λAd=>bif (!Ad) then some (false) else k1 (w64 (Aa+1)) else some (true)
def Qgh (fu:Nat)  (p1:Pallet) (Aa:List Layer):Nat→Int→Option (Bool)
  | 0=>λ_=>none
  | n+1=>Qjt fu p1 Aa (Qgh fu p1 Aa n)
def Qox (fu:Nat) (p1:Pallet) (Aa:List Layer):Option (Bool) :=
  Qac (Qhl fu p1) λAb=>bif (!Ab) then some (false) else Qgh fu p1 Aa fu 0
def Qo1 (fu:Nat) (k7:List Load→Int→Option ((List Load))) (Ab:Int) (Aa:List Load):Option ((List Load)) :=
  k7 Aa (w64 (Ab+1))
def Qdx (fu:Nat) (k7:List Load→Int→Option ((List Load))) (Ae:Int) (Ad:Layer) (Aa:List Load) (Ac:Int):Option ((List Load)) :=
  Qac (ix Aa (w64 (Ac - 1))) λAb=>Qac (Qg8 8 (([]:List Int)) Ab.f8) λAf=>Qac (Qg8 8 Af (([Ae]:List Int))) λAg=>Qac (ix Aa (w64 (Ac - 1))) λAh=>Qo1 fu k7 Ae (Qg2 Aa (w64 (Ac - 1)) (⟨Ag,w64 (Ab.fH+Ad.fH),w64 (Ab.fQ+Ad.fQ)⟩:Load))
def Qlz (fu:Nat)  (p1:Pallet) (Ad:List Layer) (k7:List Load→Int→Option ((List Load))) (Aa:List Load) (Ac:Int):Option ((List Load)) :=
  bif (decide (Ac<(Ad.length:Int))) then Qac (ix Ad Ac) λAb=>bif ((Aa.length:Int)==0) then Qac (Qg8 40 Aa [(⟨[],0,0⟩:Load)]) λAh=>Qdx fu k7 Ac Ab Ah (w64 ((Aa.length:Int)+1)) else Qac (ix Aa (w64 ((Aa.length:Int) - 1))) λAe=>bif (decide ((w64 (Ae.fH+Ab.fH))>p1.fH)) then Qac (Qg8 40 Aa [(⟨[],0,0⟩:Load)]) λAg=>Qdx fu k7 Ac Ab Ag (w64 ((Aa.length:Int)+1)) else Qac (ix Aa (w64 ((Aa.length:Int) - 1))) λAi=>bif (decide ((w64 (Ae.fQ+Ab.fQ))>p1.fQ)) then Qac (Qg8 40 Aa [(⟨[],0,0⟩:Load)]) λAf=>Qdx fu k7 Ac Ab Af (w64 ((Aa.length:Int)+1)) else Qdx fu k7 Ac Ab Aa (Aa.length:Int) else some (Aa)
def Qb0 (fu:Nat)  (p1:Pallet) (Aa:List Layer):Nat→List Load→Int→Option ((List Load))
  | 0=>λ_ _=>none
  | n+1=>Qlz fu p1 Aa (Qb0 fu p1 Aa n)
def Qqh (fu:Nat) (p1:Pallet) (Aa:List Layer):Option ((List Load)) :=
  Qac (Qox fu p1 Aa) λAb=>bif (!Ab) then some (([]:List Load)) else Qb0 fu p1 Aa fu (([]:List Load)) 0
def Qlc (fu:Nat) (Ah:List Spot→Int→Int→Option ((List Spot))) (Ag:List Box) (Al:Int) (Aj:Int) (Ae:Int) (Ak:Int) (Ab:Shelf) (Ai:List Spot→Int→Int→Option ((List Spot))) (Ac:List Spot) (Af:Int) (Aa:Int):Option ((List Spot)) :=
  bif (decide (Aa<(Ab.f9.length:Int))) then Qac (ix Ab.f9 Aa) λAd=>Qac (ix Ac Ad) λAp=>Qac (ix Ab.f9 Aa) λAo=>Qac (ix Ag Ad) λAm=>Ai (Qg2 Ac Ad (⟨Al,Af,Ae,Aj⟩:Spot)) (w64 (Af+Am.fW)) (w64 (Aa+1)) else Ah Ac (w64 (Ae+Ab.fD)) (w64 (Ak+1))
def Qg3 (fu:Nat) (Ac:List Spot→Int→Int→Option ((List Spot))) (Aa:List Box) (Af:Int) (Ad:Int) (Ab:Int) (Ae:Int) (Ag:Shelf):Nat→List Spot→Int→Int→Option ((List Spot))
  | 0=>λ_ _ _=>none
  | n+1=>Qlc fu Ac Aa Af Ad Ab Ae Ag (Qg3 fu Ac Aa Af Ad Ab Ae Ag n)
def Ql8 (fu:Nat) (Ah:List Spot→Int→Int→Option ((List Spot))) (Af:List Box) (Al:(List Shelf)) (Ak:Int) (Ad:Int) (Ai:Int) (Aa:Layer) (Aj:List Spot→Int→Int→Option ((List Spot))) (Ac:List Spot) (Ag:Int) (Ab:Int):Option ((List Spot)) :=
  bif (decide (Ab<(Aa.fE.length:Int))) then Qac (ix Aa.fE Ab) λAe=>Qac (ix Al Ae) λAm=>Qg3 fu Aj Af Ak Ad Ag Ab Am fu Ac 0 0 else Ah Ac (w64 (Ad+Aa.fH)) (w64 (Ai+1))
def Qd4 (fu:Nat) (Ac:List Spot→Int→Int→Option ((List Spot))) (Ab:List Box) (Ag:(List Shelf)) (Af:Int) (Ae:Int) (Ad:Int) (Aa:Layer):Nat→List Spot→Int→Int→Option ((List Spot))
  | 0=>λ_ _ _=>none
  | n+1=>Ql8 fu Ac Ab Ag Af Ae Ad Aa (Qd4 fu Ac Ab Ag Af Ae Ad Aa n)
def Qls (fu:Nat) (Ah:List Spot→Int→Option ((List Spot))) (Ai:List Box) (Am:(List Shelf)) (Ak:(List Layer)) (Ae:(List Load)) (Aa:Int) (Aj:List Spot→Int→Int→Option ((List Spot))) (Ac:List Spot) (Al:Int) (Ab:Int):Option ((List Spot)) :=
  Qac (ix Ae Aa) λAd=>bif (decide (Ab<(Ad.f8.length:Int))) then Qac (ix Ae Aa) λAo=>Qac (ix Ad.f8 Ab) λAf=>Qac (ix Ak Af) λAg=>Qd4 fu Aj Ai Am Aa Al Ab Ag fu Ac 0 0 else Ah Ac (w64 (Aa+1))
def Qcn (fu:Nat) (Aa:List Spot→Int→Option ((List Spot))) (Ab:List Box) (Ae:(List Shelf)) (Ac:(List Layer)) (Af:(List Load)) (Ad:Int):Nat→List Spot→Int→Int→Option ((List Spot))
  | 0=>λ_ _ _=>none
  | n+1=>Qls fu Aa Ab Ae Ac Af Ad (Qcn fu Aa Ab Ae Ac Af Ad n)
def Qk2 (fu:Nat)  (Ae:List Box) (Ag:(List Shelf)) (Af:(List Layer)) (Ac:(List Load)) (Ad:List Spot→Int→Option ((List Spot))) (Aa:List Spot) (Ab:Int):Option ((List Spot)) :=
  bif (decide (Ab<(Ac.length:Int))) then Qcn fu Ad Ae Ag Af Ac Ab fu Aa 0 0 else some (Aa)
def Qbu (fu:Nat)  (Ac:List Box) (Aa:(List Shelf)) (Ab:(List Layer)) (Ad:(List Load)):Nat→List Spot→Int→Option ((List Spot))
  | 0=>λ_ _=>none
  | n+1=>Qk2 fu Ac Aa Ab Ad (Qbu fu Ac Aa Ab Ad n)
def Qnb (fu:Nat) (p1:Pallet) (Aa:List Box):Option ((List Spot)) :=
  Qac (mk 32 (⟨(0:Int),(0:Int),(0:Int),(0:Int)⟩:Spot) (Aa.length:Int)) λAd=>Qac (Qng fu p1 Aa) λAe=>bif (!Ae) then some (([]:List Spot)) else Qac (Qp8 fu p1 Aa) λAc=>Qac (Qor fu p1 Ac) λAb=>Qac (Qqh fu p1 Ab) λAf=>Qbu fu Aa Ac Ab Af fu Ad 0
def Qkm (fu:Nat) (k3:Int→Int→Option (Int)) (Aa:Int) (Ab:Int):Option (Int) :=
  k3 Ab (w64 (Aa+1))
def Qlt (fu:Nat)  (Ab:List Spot) (k3:Int→Int→Option (Int)) (Ac:Int) (Aa:Int):Option (Int) :=
  bif (decide (Aa<(Ab.length:Int))) then Qac (ix Ab Aa) λAd=>Qac (Qa1 fu Ad.fJ 0 999999) λAe=>bif Ae then Qac (ix Ab Aa) λAg=>Qac (Qk1 fu Ac (w64 (Ad.fJ+1))) λAf=>Qkm fu k3 Aa Af else Qkm fu k3 Aa Ac else some (Ac)
def Qf0 (fu:Nat)  (Aa:List Spot):Nat→Int→Int→Option (Int)
  | 0=>λ_ _=>none
  | n+1=>Qlt fu Aa (Qf0 fu Aa n)
def Qqj (fu:Nat) (Aa:List Spot):Option (Int) :=
  Qf0 fu Aa fu 0 0
def Qm6 (fu:Nat) (Ac:List Box→Int→Option (Plan×Bool)) (Ab:Int) (Aa:List Box):Option (Plan×Bool) :=
  Ac Aa (w64 (Ab+1))
def Qn7 (fu:Nat) (Aj:List Spot→Int→Int→Option (Plan×Bool)) (Ad:Int) (Ai:Int) (Ab:(List Spot)) (Af:List Spot→Int→Option (Plan×Bool)) (Ae:List Spot) (Ac:Int):Option (Plan×Bool) :=
  bif (decide (Ac<(Ab.length:Int))) then Qac (ix Ab Ac) λAa=>Qac (Qg8 32 Ae (([(⟨w64 (Aa.fJ+Ad),Aa.fX,Aa.fY,Aa.fZ⟩:Spot)]:List Spot))) λAh=>Af Ah (w64 (Ac+1)) else Qac (Qqj fu Ab) λAg=>Aj Ae (w64 (Ad+Ag)) (w64 (Ai+1))
def Qgm (fu:Nat) (Ac:List Spot→Int→Int→Option (Plan×Bool)) (Ab:Int) (Ad:Int) (Aa:(List Spot)):Nat→List Spot→Int→Option (Plan×Bool)
  | 0=>λ_ _=>none
  | n+1=>Qn7 fu Ac Ab Ad Aa (Qgm fu Ac Ab Ad Aa n)
def Qno (fu:Nat) (Ai:List Spot→Int→Int→Option (Plan×Bool)) (r1:Request) (Ac:(List Carton)) (Ak:List Spot) (Ah:Int) (Ae:Int) (Af:List Box→Int→Option (Plan×Bool)) (Ab:List Box) (Aa:Int):Option (Plan×Bool) :=
  bif (decide (Aa<(Ac.length:Int))) then Qac (ix Ac Aa) λAd=>bif (Ad.fM==Ae) then Qac (ix Ac Aa) λAm=>Qac (Qs1 fu r1 Ad) λAl=>Qac (Qg8 32 Ab (([Al]:List Box))) λAj=>Qm6 fu Af Aa Aj else Qm6 fu Af Aa Ab else Qac (Qnb fu r1.fJ Ab) λAg=>Qgm fu Ai Ah Ae Ag fu Ak 0
def Qgq (fu:Nat) (Ac:List Spot→Int→Int→Option (Plan×Bool)) (r1:Request) (Ae:(List Carton)) (Ad:List Spot) (Ab:Int) (Aa:Int):Nat→List Box→Int→Option (Plan×Bool)
  | 0=>λ_ _=>none
  | n+1=>Qno fu Ac r1 Ae Ad Ab Aa (Qgq fu Ac r1 Ae Ad Ab Aa n)
def Qnw (fu:Nat)  (r1:Request) (Ac:(List Carton)) (Ad:(List (List Int))) (Af:List Spot→Int→Int→Option (Plan×Bool)) (Ab:List Spot) (Ae:Int) (Aa:Int):Option (Plan×Bool) :=
  bif (decide (Aa<(Ad.length:Int))) then Qgq fu Af r1 Ac Ab Ae Aa fu (([]:List Box)) 0 else some ((⟨Ac,Ab⟩:Plan),true)
def Qcs (fu:Nat)  (r1:Request) (Ab:(List Carton)) (Aa:(List (List Int))):Nat→List Spot→Int→Int→Option (Plan×Bool)
  | 0=>λ_ _ _=>none
  | n+1=>Qnw fu r1 Ab Aa (Qcs fu r1 Ab Aa n)
def Qry (fu:Nat) (r1:Request):Option (Plan×Bool) :=
  Qac (Qfv fu r1) λAc=>bif (Ac != 0) then some ((⟨[],[]⟩:Plan),false) else Qac (Qmt fu r1) λAa=>Qac (Qii fu r1) λAb=>Qcs fu r1 Aa Ab fu (([]:List Spot)) 0 0
def Qhz (fu:Nat) (k3:Int→Option (Bool)) (Aa:Int)  : Option (Bool) :=
  k3 (w64 (Aa+1))
def Qio (fu:Nat)  (Ab:List Int) (k3:Int→Option (Bool)) (Aa:Int):Option (Bool) :=
  bif (decide (Aa<(Ab.length:Int))) then Qac (ix Ab Aa) λAc=>Qac (Qbk fu Ac 0 999) λAe=>bif (!Ae) then some (false) else bif (decide (Aa>0)) then Qac (ix Ab (w64 (Aa - 1))) λAd=>bif (decide (Ad≥Ac)) then some (false) else Qhz fu k3 Aa else Qhz fu k3 Aa else some (decide ((Ab.length:Int)≤100))
def Qd8 (fu:Nat)  (Aa:List Int):Nat→Int→Option (Bool)
  | 0=>λ_=>none
  | n+1=>Qio fu Aa (Qd8 fu Aa n)
def Qkq (fu:Nat) (Aa:List Int):Option (Bool) :=
  Qd8 fu Aa fu 0
def Qck (fu:Nat) (n1:Int):Option (Bool) :=
  Qac (Qbk fu n1 0 2000) λx2=>some (x2)
def Qqv (fu:Nat) (k4:Int→Option (Bool)) (Aa:Int)  : Option (Bool) :=
  k4 (w64 (Aa+1))
def Qn9 (fu:Nat)  (x1:Plan) (k4:Int→Option (Bool)) (Ab:Int):Option (Bool) :=
  bif (decide (Ab<(x1.fV.length:Int))) then Qac (ix x1.fV Ab) λAc=>Qac (ix x1.fF Ab) λAa=>Qac (Qbk fu Ac.qJ 0 999) λAh=>bif (!Ah) then some (false) else Qac (Qbk fu Ac.fM 0 3) λAi=>bif (!Ai) then some (false) else Qac (Qkq fu Ac.fO) λAg=>bif (!Ag) then some (false) else Qac (Qck fu Aa.fJ) λAf=>bif (!Af) then some (false) else Qac (Qck fu Aa.fX) λAj=>bif (!Aj) then some (false) else Qac (Qck fu Aa.fY) λAd=>bif (!Ad) then some (false) else Qac (Qck fu Aa.fZ) λAe=>bif (!Ae) then some (false) else Qqv fu k4 Ab else some (true)
def Qgt (fu:Nat)  (x1:Plan):Nat→Int→Option (Bool)
  | 0=>λ_=>none
  | n+1=>Qn9 fu x1 (Qgt fu x1 n)
def Qqy (fu:Nat) (x1:Plan)  : Option (Bool) :=
  Qgt fu x1 fu 0
def Qlj (fu:Nat) (x1:Plan):Option (Bool) :=
  bif ((x1.fF.length:Int) != (x1.fV.length:Int)) then some (false) else bif (decide ((x1.fV.length:Int)>100)) then some (false) else Qqy fu x1
def Qb2 (fu:Nat)  (Ab:List Carton) (f5:Carton→Option Bool) (k1:Int→Option (Int)) (Aa:Int):Option (Int) :=
  bif (decide (Aa<(Ab.length:Int))) then Qac (ix Ab Aa) λAc=>Qac (f5 Ac) λAd=>bif Ad then some (Aa) else k1 (w64 (Aa+1)) else some ((-1))
def Qa0 (fu:Nat)  (Aa:List Carton) (f5:Carton→Option Bool):Nat→Int→Option (Int)
  | 0=>λ_=>none
  | n+1=>Qb2 fu Aa f5 (Qa0 fu Aa f5 n)
def Qbx (fu:Nat) (Aa:List Carton) (f5:Carton→Option Bool):Option (Int) :=
  Qa0 fu Aa f5 fu 0
def Qbm (fu:Nat) (Aa:List Carton) (f5:Carton→Option Bool):Option (Bool) :=
  Qac (Qbx fu Aa f5) λAb=>some (decide (Ab≥0))
def Qsq (fu:Nat) (c1:Carton):Option (Bool) :=
  some ((c1.fO.length:Int)==0)
def Qj5 (fu:Nat)  (x1:Plan) (k1:List Int→Int→Option ((List Int))) (Ab:List Int) (Aa:Int):Option ((List Int)) :=
  bif (decide (Aa<(x1.fV.length:Int))) then Qac (ix x1.fV Aa) λAd=>Qac (Qg8 8 Ab Ad.fO) λAc=>k1 Ac (w64 (Aa+1)) else some (Ab)
def Qgj (fu:Nat)  (x1:Plan):Nat→List Int→Int→Option ((List Int))
  | 0=>λ_ _=>none
  | n+1=>Qj5 fu x1 (Qgj fu x1 n)
def Qkv (fu:Nat) (x1:Plan):Option ((List Int)) :=
  Qgj fu x1 fu (([]:List Int)) 0
def Qga (fu:Nat)  (Ab:List Int) (Ac:List Int) (k1:Int→Option (Bool)) (Aa:Int):Option (Bool) :=
  bif (decide (Aa<(Ab.length:Int))) then Qac (ix Ab Aa) λAd=>Qac (ix Ac Aa) λAe=>bif (Ad != Ae) then some (false) else k1 (w64 (Aa+1)) else some (true)
def Qc7 (fu:Nat)  (Aa:List Int) (Ab:List Int):Nat→Int→Option (Bool)
  | 0=>λ_=>none
  | n+1=>Qga fu Aa Ab (Qc7 fu Aa Ab n)
def Qg1 (fu:Nat) (Aa:List Int) (Ab:List Int):Option (Bool) :=
  bif ((Aa.length:Int) != (Ab.length:Int)) then some (false) else Qc7 fu Aa Ab fu 0
def Qj2 (fu:Nat) (y1:Item) (x2:Carton) (x8:List (List Int)):Option (Bool) :=
  bif (decide (x2.fM≥(x8.length:Int))) then some (true) else Qac (ix x8 x2.fM) λAb=>Qac (Qc9 fu Ab y1.fL) λAa=>some (!Aa)
def Qi0 (fu:Nat) (k3:Int→Option (Int)) (Aa:Int)  : Option (Int) :=
  k3 (w64 (Aa+1))
def Qh2 (fu:Nat)  (r1:Request) (x5:Plan) (k6:Int→Option (Int)) (Aa:Int):Option (Int) :=
  bif (decide (Aa<(x5.fV.length:Int))) then Qac (ix x5.fV Aa) λAb=>Qac (Qke fu r1 Ab.fO) λAc=>bif (Ac.1.qQ != Ab.qJ) then some (6) else k6 (w64 (Aa+1)) else some (0)
def Qej (fu:Nat)  (r1:Request) (x5:Plan):Nat→Int→Option (Int)
  | 0=>λ_=>none
  | n+1=>Qh2 fu r1 x5 (Qej fu r1 x5 n)
def Qh6 (fu:Nat)  (r1:Request) (x5:Plan) (Af:(List (List Int))) (k5:Int→Option (Int)) (Aa:Int):Option (Int) :=
  bif (decide (Aa<(x5.fV.length:Int))) then Qac (ix x5.fV Aa) λAb=>Qac (Qh7 fu r1 Ab.fO) λAd=>Qac (Qau fu Ad (λAc=>Qj2 fu Ac Ab Af)) λAe=>bif Ae then some (5) else k5 (w64 (Aa+1)) else Qej fu r1 x5 fu 0
def Qek (fu:Nat)  (r1:Request) (x5:Plan) (Aa:(List (List Int))):Nat→Int→Option (Int)
  | 0=>λ_=>none
  | n+1=>Qh6 fu r1 x5 Aa (Qek fu r1 x5 Aa n)
def Qh1 (fu:Nat)  (r1:Request) (x5:Plan) (k3:Int→Option (Int)) (Aa:Int):Option (Int) :=
  bif (decide (Aa<(x5.fV.length:Int))) then Qac (ix x5.fV Aa) λAc=>Qac (Qhn fu r1 Ac.qJ) λAb=>bif (!Ab.2) then some (4) else Qac (Qrb fu r1 Ac.fO Ab.1) λAd=>bif (!Ad) then some (4) else Qi0 fu k3 Aa else Qac (Qhq fu r1) λAe=>Qek fu r1 x5 Ae fu 0
def Qdp (fu:Nat)  (r1:Request) (x5:Plan):Nat→Int→Option (Int)
  | 0=>λ_=>none
  | n+1=>Qh1 fu r1 x5 (Qdp fu r1 x5 n)
def Qi8 (fu:Nat) (r1:Request) (x5:Plan):Option (Int) :=
  Qdp fu r1 x5 fu 0
def Qqq (fu:Nat) (p1:Pallet) (b2:Box) (Aa:Spot)  : Option (Bool) :=
  bif (decide ((w64 (Aa.fX+b2.fW))≤p1.fW)) then bif (decide ((w64 (Aa.fY+b2.fD))≤p1.fD)) then some (decide ((w64 (Aa.fZ+b2.fH))≤p1.fH)) else some (false) else some (false)
def Qrm (fu:Nat) (p1:Pallet) (b2:Box) (Aa:Spot):Option (Bool) :=
  Qac (Qck fu Aa.fX) λAb=>bif (!Ab) then some (false) else Qac (Qck fu Aa.fY) λAc=>bif (!Ac) then some (false) else Qac (Qck fu Aa.fZ) λAf=>bif (!Af) then some (false) else Qac (Qc4 fu b2.fW) λAd=>bif (!Ad) then some (false) else Qac (Qc4 fu b2.fD) λAe=>bif (!Ae) then some (false) else Qac (Qc4 fu b2.fH) λAg=>bif (!Ag) then some (false) else Qqq fu p1 b2 Aa
def Qpf (fu:Nat) (b1:Box) (Aa:Spot):Option (Bool) :=
  Qac (Qck fu b1.fW) λAe=>bif Ae then Qac (Qck fu b1.fD) λAg=>bif Ag then Qac (Qck fu b1.fH) λAc=>bif Ac then Qac (Qck fu Aa.fX) λAd=>bif Ad then Qac (Qck fu Aa.fY) λAb=>bif Ab then Qac (Qck fu Aa.fZ) λAf=>some (Af) else some (false) else some (false) else some (false) else some (false) else some (false)
def Qou (fu:Nat) (a1:Int) (Ab:Int) (b3:Int) (Aa:Int):Option (Bool) :=
  bif (decide (a1<(w64 (b3+Aa)))) then some (decide (b3<(w64 (a1+Ab)))) else some (false)
def Qpr (fu:Nat) (a1:Box) (Aa:Spot) (b3:Box) (t4:Spot)  : Option (Bool) :=
  Qac (Qou fu Aa.fX a1.fW t4.fX b3.fW) λAb=>bif Ab then Qac (Qou fu Aa.fY a1.fD t4.fY b3.fD) λAd=>bif Ad then Qac (Qou fu Aa.fZ a1.fH t4.fZ b3.fH) λAc=>some (Ac) else some (false) else some (false)
def Qp4 (fu:Nat) (a1:Box) (Aa:Spot) (b3:Box) (t4:Spot):Option (Bool) :=
  Qac (Qpf fu a1 Aa) λAb=>bif (!Ab) then some (false) else Qac (Qpf fu b3 t4) λAc=>bif (!Ac) then some (false) else bif (Aa.fJ != t4.fJ) then some (false) else Qpr fu a1 Aa b3 t4
def Qjh (fu:Nat) (k3:List Int→Int→Option ((List Int))) (Ab:Int) (Aa:List Int):Option ((List Int)) :=
  k3 Aa (w64 (Ab+1))
def Qj0 (fu:Nat)  (x1:Plan) (Ad:Int) (k3:List Int→Int→Option ((List Int))) (Ab:List Int) (Aa:Int):Option ((List Int)) :=
  bif (decide (Aa<(x1.fF.length:Int))) then Qac (ix x1.fF Aa) λAc=>bif (Ac.fJ==Ad) then Qac (Qg8 8 Ab (([Aa]:List Int))) λAe=>Qjh fu k3 Aa Ae else Qjh fu k3 Aa Ab else some (Ab)
def Qe4 (fu:Nat)  (x1:Plan) (Aa:Int):Nat→List Int→Int→Option ((List Int))
  | 0=>λ_ _=>none
  | n+1=>Qj0 fu x1 Aa (Qe4 fu x1 Aa n)
def Qj9 (fu:Nat) (x1:Plan) (Aa:Int):Option ((List Int)) :=
  bif ((x1.fF.length:Int) != (x1.fV.length:Int)) then some (([]:List Int)) else Qe4 fu x1 Aa fu (([]:List Int)) 0
def Qin (fu:Nat)  (r1:Request) (x5:Plan) (Ab:(List Int)) (k1:Int→Int→Option (Int)) (Ac:Int) (Aa:Int):Option (Int) :=
  bif (decide (Aa<(Ab.length:Int))) then Qac (ix Ab Aa) λAe=>Qac (ix x5.fV Ae) λAd=>Qac (Qra fu r1 Ad) λAf=>k1 (w64 (Ac+Af)) (w64 (Aa+1)) else some (Ac)
def Qe0 (fu:Nat)  (r1:Request) (x5:Plan) (Aa:(List Int)):Nat→Int→Int→Option (Int)
  | 0=>λ_ _=>none
  | n+1=>Qin fu r1 x5 Aa (Qe0 fu r1 x5 Aa n)
def Qka (fu:Nat) (r1:Request) (x5:Plan) (Aa:Int):Option (Int) :=
  Qac (Qj9 fu x5 Aa) λAb=>Qe0 fu r1 x5 Ab fu 0 0
def Qnp (fu:Nat) (i1:Int) (x2:Plan) (Aa:List Int):Option (Bool) :=
  Qac (ix x2.fV i1) λAb=>Qac (ix Aa 0) λAd=>Qac (ix x2.fV Ad) λAc=>some (Ab.fM != Ac.fM)
def Qiz (fu:Nat) (k4:Int→Option (Int)) (x5:Plan) (Ac:List Box) (Aa:Int) (k5:Int→Option (Int)) (Ab:Int):Option (Int) :=
  bif (decide (Ab<Aa)) then Qac (ix Ac Aa) λAf=>Qac (ix x5.fF Aa) λAg=>Qac (ix Ac Ab) λAd=>Qac (ix x5.fF Ab) λAe=>Qac (Qp4 fu Af Ag Ad Ae) λAh=>bif Ah then some (8) else k5 (w64 (Ab+1)) else k4 (w64 (Aa+1))
def Qfj (fu:Nat) (k4:Int→Option (Int)) (x5:Plan) (Ab:List Box) (Aa:Int):Nat→Int→Option (Int)
  | 0=>λ_=>none
  | n+1=>Qiz fu k4 x5 Ab Aa (Qfj fu k4 x5 Ab Aa n)
def Qk5 (fu:Nat) (Aa:Int→Option (Int)) (Ab:Int)  : Option (Int) :=
  Aa (w64 (Ab+1))
def Qlg (fu:Nat) (Ac:Int→Option (Int)) (x5:Plan) (Ab:Int) (Aa:(List Int))  : Option (Int) :=
  Qac (Qcz fu Aa (λAd=>Qnp fu Ad x5 Aa)) λAe=>bif Ae then some (9) else Qk5 fu Ac Ab
def Qjf (fu:Nat)  (r1:Request) (x5:Plan) (Ae:Int) (Ac:Int→Option (Int)) (Aa:Int):Option (Int) :=
  bif (decide (Aa<Ae)) then Qac (Qj9 fu x5 Aa) λAb=>bif ((Ab.length:Int)==0) then some (9) else Qac (Qka fu r1 x5 Aa) λAd=>bif (decide (Ad>r1.fJ.fQ)) then some (9) else Qlg fu Ac x5 Aa Ab else some (0)
def Qdr (fu:Nat)  (r1:Request) (x5:Plan) (Aa:Int):Nat→Int→Option (Int)
  | 0=>λ_=>none
  | n+1=>Qjf fu r1 x5 Aa (Qdr fu r1 x5 Aa n)
def Qja (fu:Nat)  (r1:Request) (x5:Plan) (Ab:List Box) (k4:Int→Option (Int)) (Aa:Int):Option (Int) :=
  bif (decide (Aa<(Ab.length:Int))) then Qfj fu k4 x5 Ab Aa fu 0 else Qac (Qjj fu x5.fF) λAc=>Qdr fu r1 x5 Ac fu 0
def Qds (fu:Nat)  (r1:Request) (x5:Plan) (Aa:List Box):Nat→Int→Option (Int)
  | 0=>λ_=>none
  | n+1=>Qja fu r1 x5 Aa (Qds fu r1 x5 Aa n)
def Qi2 (fu:Nat)  (r1:Request) (x5:Plan) (k1:List Box→Int→Option (Int)) (Ab:List Box) (Aa:Int):Option (Int) :=
  bif (decide (Aa<(x5.fV.length:Int))) then Qac (ix x5.fV Aa) λAd=>Qac (Qrc fu r1 Ad) λAc=>Qac (ix x5.fF Aa) λAg=>Qac (Qrm fu r1.fJ Ac Ag) λAf=>bif (!Af) then some (7) else Qac (Qg8 32 Ab (([Ac]:List Box))) λAe=>k1 Ae (w64 (Aa+1)) else Qds fu r1 x5 Ab fu 0
def Qfh (fu:Nat)  (r1:Request) (x5:Plan):Nat→List Box→Int→Option (Int)
  | 0=>λ_ _=>none
  | n+1=>Qi2 fu r1 x5 (Qfh fu r1 x5 n)
def Qna (fu:Nat) (r1:Request) (x5:Plan):Option (Int) :=
  Qfh fu r1 x5 fu (([]:List Box)) 0
def Qr5 (fu:Nat) (r1:Request) (x5:Plan)  : Option (Int) :=
  Qac (Qkv fu x5) λAf=>Qac (Qcl fu Af) λAe=>Qac (Qix fu r1) λAc=>Qac (Qlr fu (Ac.length:Int)) λAg=>Qac (Qg1 fu Ae Ag) λAb=>bif (!Ab) then some (3) else Qac (Qi8 fu r1 x5) λAa=>bif (Aa != 0) then some (Aa) else Qac (Qna fu r1 x5) λAd=>some (Ad)
def Qoh (fu:Nat) (r1:Request) (x5:Plan):Option (Int) :=
  Qac (Qfq fu r1) λAc=>bif (!Ac) then some (1) else Qac (Qlj fu x5) λAd=>bif (!Ad) then some (2) else Qac (Qbm fu x5.fV (λAb=>Qsq fu Ab)) λAa=>bif Aa then some (2) else Qr5 fu r1 x5
def Qom (fu:Nat) (r1:Request) (x5:Plan):Option (Bool) :=
  Qac (Qoh fu r1 x5) λAa=>some (Aa==0)
def Qrz (fu:Nat) (u1:Int) (x2:List Int):Option (Bool) :=
  Qac (Qc9 fu x2 u1) λx8=>some (x8)
def Qto (fu:Nat) (r1:Request) (x5:Plan):Option ((List Int)) :=
  Qac (Qkv fu x5) λAa=>Qac (Qix fu r1) λAe=>Qac (Qlr fu (Ae.length:Int)) λAb=>Qac (Qdf fu Ab (λAc=>Qrz fu Ac Aa)) λAd=>some (Ad)
def Qt9 (fu:Nat) (x1:Int):Option ByteArray:=Jcw x1
def Qr3 (fu:Nat) (n1:Int):Option (ByteArray) :=
  Qac (Qt9 fu n1) λx2=>some (x2)
def Qj3 (fu:Nat)  (Ab:List Int) (k1:ByteArray→Int→Option (ByteArray×Bool)) (Ac:ByteArray) (Aa:Int):Option (ByteArray×Bool) :=
  bif (decide (Aa<(Ab.length:Int))) then Qac (ix Ab Aa) λAd=>Qac (Qbk fu Ad 0 999999) λAi=>bif (!Ai) then some ((⟨#[]⟩:ByteArray),false) else Qac (Qr3 fu Ad) λAf=>Qac (Q1h (⟨#[32]⟩:ByteArray) Af) λAe=>Qac (Q1h Ac Ae) λAg=>k1 Ag (w64 (Aa+1)) else Qac (Q1h Ac (⟨#[10]⟩:ByteArray)) λAh=>some (Ah,true)
def Qe3 (fu:Nat)  (Aa:List Int):Nat→ByteArray→Int→Option (ByteArray×Bool)
  | 0=>λ_ _=>none
  | n+1=>Qj3 fu Aa (Qe3 fu Aa n)
def Qkk (fu:Nat) (Aa:ByteArray) (Ab:List Int):Option (ByteArray×Bool) :=
  Qe3 fu Ab fu Aa 0
def Qjz (fu:Nat)  (x1:Plan) (k1:ByteArray→Int→Option (ByteArray)) (Ad:ByteArray) (Aa:Int):Option (ByteArray) :=
  bif (decide (Aa<(x1.fV.length:Int))) then Qac (ix x1.fV Aa) λAc=>Qac (ix x1.fF Aa) λAb=>Qac (Qg8 8 (([Ac.qJ,Ac.fM,Ab.fJ,Ab.fX,Ab.fY,Ab.fZ]:List Int)) Ac.fO) λAe=>Qac (Qkk fu (⟨#[99,97,114,116,111,110]⟩:ByteArray) Ae) λAf=>Qac (Q1h Ad Af.1) λAg=>k1 Ag (w64 (Aa+1)) else some (Ad)
def Qed (fu:Nat)  (x1:Plan):Nat→ByteArray→Int→Option (ByteArray)
  | 0=>λ_ _=>none
  | n+1=>Qjz fu x1 (Qed fu x1 n)
def Qog (fu:Nat) (x1:Plan):Option (ByteArray) :=
  Qac (Qlj fu x1) λAa=>bif (!Aa) then some (⟨#[]⟩:ByteArray) else Qed fu x1 fu (⟨#[]⟩:ByteArray) 0
def Qie (fu:Nat) (k4:Int→Option (Bool)) (Aa:Int)  : Option (Bool) :=
  k4 (w64 (Aa+1))
def Qi7 (fu:Nat)  (x1:Carton) (k4:Int→Option (Bool)) (Aa:Int):Option (Bool) :=
  bif (decide (Aa<(x1.fO.length:Int))) then Qac (ix x1.fO Aa) λAb=>Qac (Qa1 fu Ab 0 999) λAc=>bif (!Ac) then some (false) else bif (decide (Aa>0)) then Qac (ix x1.fO Aa) λAe=>Qac (ix x1.fO (w64 (Aa - 1))) λAd=>bif (decide (Ab≤Ad)) then some (false) else Qie fu k4 Aa else Qie fu k4 Aa else some (true)
def Qel (fu:Nat)  (x1:Carton):Nat→Int→Option (Bool)
  | 0=>λ_=>none
  | n+1=>Qi7 fu x1 (Qel fu x1 n)
def Qml (fu:Nat) (x1:Carton)  : Option (Bool) :=
  Qel fu x1 fu 0
def Qm9 (fu:Nat) (x1:Carton):Option (Bool) :=
  Qac (Qof fu x1.qJ) λAa=>bif (!Aa) then some (false) else Qac (Qa1 fu x1.fM 0 3) λAb=>bif (!Ab) then some (false) else bif (decide ((x1.fO.length:Int)>100)) then some (false) else Qml fu x1
def Qqs (fu:Nat) (k4:Int→Option (Bool)) (Aa:Int)  : Option (Bool) :=
  k4 (w64 (Aa+1))
def Qnq (fu:Nat)  (x1:Plan) (k4:Int→Option (Bool)) (Ab:Int):Option (Bool) :=
  bif (decide (Ab<(x1.fV.length:Int))) then Qac (ix x1.fF Ab) λAa=>Qac (ix x1.fV Ab) λAd=>Qac (Qm9 fu Ad) λAh=>bif (!Ah) then some (false) else Qac (Qa1 fu Aa.fJ 0 2000) λAe=>bif (!Ae) then some (false) else Qac (Qa1 fu Aa.fX 0 2000) λAc=>bif (!Ac) then some (false) else Qac (Qa1 fu Aa.fY 0 2000) λAf=>bif (!Af) then some (false) else Qac (Qa1 fu Aa.fZ 0 2000) λAg=>bif (!Ag) then some (false) else Qqs fu k4 Ab else some (true)
def Qgs (fu:Nat)  (x1:Plan):Nat→Int→Option (Bool)
  | 0=>λ_=>none
  | n+1=>Qnq fu x1 (Qgs fu x1 n)
def Qqo (fu:Nat) (x1:Plan)  : Option (Bool) :=
  Qgs fu x1 fu 0
def Qrj (fu:Nat) (x1:Plan):Option (Bool) :=
  bif ((x1.fV.length:Int) != (x1.fF.length:Int)) then some (false) else bif (decide ((x1.fV.length:Int)>100)) then some (false) else Qqo fu x1
def Qm8 (fu:Nat) (k3:Int→ByteArray→Option (ByteArray)) (Ad:Int) (Aa:ByteArray) (Ab:Int):Option (ByteArray) :=
  Qac (Jjd (([(⟨w8 (w64 (48+Ab))⟩:U8)]:List U8))) λAe=>Qac (Q1h Ae Aa) λAc=>k3 (w64 (Int.tdiv Ad 10)) Ac
def Qn6 (fu:Nat)  (n1:Int) (k3:Int→ByteArray→Option (ByteArray)) (Aa:Int) (Ab:ByteArray):Option (ByteArray) :=
  bif (Aa != 0) then bif (decide ((Int.tmod Aa 10)<0)) then Qm8 fu k3 Aa Ab (w64 (0 - (Int.tmod Aa 10))) else Qm8 fu k3 Aa Ab (Int.tmod Aa 10) else bif (decide (n1<0)) then Qac (Q1h (⟨#[45]⟩:ByteArray) Ab) λAc=>some (Ac) else some (Ab)
def Qgl (fu:Nat)  (n1:Int):Nat→Int→ByteArray→Option (ByteArray)
  | 0=>λ_ _=>none
  | n+1=>Qn6 fu n1 (Qgl fu n1 n)
def Qpg (fu:Nat) (n1:Int):Option (ByteArray) :=
  bif (n1==0) then some (⟨#[48]⟩:ByteArray) else Qgl fu n1 fu n1 (⟨#[]⟩:ByteArray)
def Qmb (fu:Nat)  (Ac:List Int) (k1:ByteArray→Int→Option (ByteArray)) (Ab:ByteArray) (Aa:Int):Option (ByteArray) :=
  bif (decide (Aa<(Ac.length:Int))) then Qac (Q1h Ab (⟨#[32]⟩:ByteArray)) λAe=>Qac (ix Ac Aa) λAg=>Qac (Qpg fu Ag) λAf=>Qac (Q1h Ae Af) λAd=>k1 Ad (w64 (Aa+1)) else some (Ab)
def Qev (fu:Nat)  (Aa:List Int):Nat→ByteArray→Int→Option (ByteArray)
  | 0=>λ_ _=>none
  | n+1=>Qmb fu Aa (Qev fu Aa n)
def Qql (fu:Nat) (x1:Carton) (Aa:Spot):Option (ByteArray) :=
  Qac (Qg8 8 (([x1.qJ,x1.fM,Aa.fJ,Aa.fX,Aa.fY,Aa.fZ]:List Int)) x1.fO) λAb=>Qev fu Ab fu (⟨#[99,97,114,116,111,110]⟩:ByteArray) 0
def Qjo (fu:Nat)  (x1:Plan) (k1:ByteArray→Int→Option (ByteArray)) (Ab:ByteArray) (Aa:Int):Option (ByteArray) :=
  bif (decide (Aa<(x1.fV.length:Int))) then Qac (ix x1.fV Aa) λAc=>Qac (ix x1.fF Aa) λAd=>Qac (Qql fu Ac Ad) λAe=>Qac (Q1h Ab Ae) λAg=>Qac (Q1h Ag (⟨#[10]⟩:ByteArray)) λAf=>k1 Af (w64 (Aa+1)) else some (Ab)
def Qe5 (fu:Nat)  (x1:Plan):Nat→ByteArray→Int→Option (ByteArray)
  | 0=>λ_ _=>none
  | n+1=>Qjo fu x1 (Qe5 fu x1 n)
def Qoj (fu:Nat) (x1:Plan):Option (ByteArray) :=
  Qac (Qrj fu x1) λAa=>bif (!Aa) then some (⟨#[]⟩:ByteArray) else Qe5 fu x1 fu (⟨#[]⟩:ByteArray) 0
end Go.Proofs.YtpcmapfabndggaaGreatDoor
