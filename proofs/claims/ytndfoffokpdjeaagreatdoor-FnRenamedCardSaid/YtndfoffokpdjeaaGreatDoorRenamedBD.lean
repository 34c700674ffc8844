/- FnRenamed: what the .. -/
import Derived.Test.YtndfoffokpdjeaaGreatDoorS13
import Derived.Test.YtndfoffokpdjeaaGreatDoorS15
import Derived.Test.YtndfoffokpdjeaaGreatDoorS22
import Derived.Test.YtndfoffokpdjeaaGreatDoorS25
set_option linter.unusedVariables false
namespace Go.Proofs.YtndfoffokpdjeaaGreatDoor
open Go
def Qth (fu:Nat) (Aa:List U8):Option (Bool) :=
  some (decide ((Aa.length:Int)>1048576))
def Qpv (fu:Nat) (k3:Int→Int→Option (Cur)) (Ad:List U8) (Ab:Int) (Aa:Int)  : Option (Cur) :=
  Qab (ix Ad Aa) λAc=>k3 (IntKind.wrap .i64 (((BitVec.ofInt (IntKind.bits .i64) (w64 ((w64 ((w64 (Ab*131))+(w64 Ac.n)))+7)) &&& BitVec.ofInt (IntKind.bits .i64) 1073741823).toNat:Nat):Int)) (w64 (Aa+1))
def Qng (fu:Nat)  (Aa:List U8) (k3:Int→Int→Option (Cur)) (Ab:Int) (Ac:Int):Option (Cur) :=
  bif (decide (Ac<(Aa.length:Int))) then bif (decide (Ac<4000)) then Qpv fu k3 Aa Ab Ac else some (⟨Aa,0,Ab⟩:Cur) else some (⟨Aa,0,Ab⟩:Cur)
def Qgn (fu:Nat)  (Aa:List U8):Nat→Int→Int→Option (Cur)
  | 0=>λ_ _=>none
  | n+1=>Qng fu Aa (Qgn fu Aa n)
def Qq6 (fu:Nat) (Aa:List U8):Option (Cur) :=
  Qgn fu Aa fu (w64 (26583+(Aa.length:Int))) 0
def Qgz (fu:Nat) (c1:Cur):Option (Int×Cur) :=
  bif (decide (c1.fi<(c1.fb.length:Int))) then Qab (ix c1.fb c1.fi) λAa=>some (IntKind.wrap .i64 (((BitVec.ofInt (IntKind.bits .i64) (w64 ((IntKind.wrap .i64 (((BitVec.ofInt (IntKind.bits .i64) (IntKind.wrap .i64 (((BitVec.ofInt (IntKind.bits .i64) (Int.fdiv (w64 ((w64 (c1.fh*6364136223846793005))+1442695040888963407)) (2 ^ (min 33 (IntKind.bits .i64)))) ^^^ BitVec.ofInt (IntKind.bits .i64) (Int.fdiv (w64 ((w64 (c1.fh*6364136223846793005))+1442695040888963407)) (2 ^ (min 45 (IntKind.bits .i64))))).toNat:Nat):Int)) &&& BitVec.ofInt (IntKind.bits .i64) 255).toNat:Nat):Int))+(w64 Aa.n))) &&& BitVec.ofInt (IntKind.bits .i64) 255).toNat:Nat):Int),(⟨c1.fb,w64 (c1.fi+1),w64 ((w64 (c1.fh*6364136223846793005))+1442695040888963407)⟩:Cur)) else some (IntKind.wrap .i64 (((BitVec.ofInt (IntKind.bits .i64) (IntKind.wrap .i64 (((BitVec.ofInt (IntKind.bits .i64) (Int.fdiv (w64 ((w64 (c1.fh*6364136223846793005))+1442695040888963407)) (2 ^ (min 33 (IntKind.bits .i64)))) ^^^ BitVec.ofInt (IntKind.bits .i64) (Int.fdiv (w64 ((w64 (c1.fh*6364136223846793005))+1442695040888963407)) (2 ^ (min 45 (IntKind.bits .i64))))).toNat:Nat):Int)) &&& BitVec.ofInt (IntKind.bits .i64) 255).toNat:Nat):Int),(⟨c1.fb,c1.fi,w64 ((w64 (c1.fh*6364136223846793005))+1442695040888963407)⟩:Cur))
def Qan (fu:Nat) (c1:Cur) (n7:Int):Option (Int×Cur) :=
  bif (decide (n7≤0)) then some (0,c1) else bif (decide (n7≤256)) then Qab (Qgz fu c1) λAe=>Qab (Jfc n7) λAf=>some (Int.tmod Ae.1 n7,(⟨c1.fb,Ae.2.fi,Ae.2.fh⟩:Cur)) else Qab (Qgz fu c1) λAd=>Qab (Qgz fu (⟨c1.fb,Ad.2.fi,Ad.2.fh⟩:Cur)) λAa=>Qab (Qgz fu (⟨c1.fb,Aa.2.fi,Aa.2.fh⟩:Cur)) λAb=>Qab (Qgz fu (⟨c1.fb,Ab.2.fi,Ab.2.fh⟩:Cur)) λAc=>Qab (Jfc n7) λAg=>some (Int.tmod (w64 ((w64 ((w64 ((w64 (Ad.1*16777216))+(w64 (Aa.1*65536))))+(w64 (Ab.1*256))))+Ac.1)) n7,(⟨c1.fb,Ac.2.fi,Ac.2.fh⟩:Cur))
def Qld (fu:Nat) (c1:Cur) (n7:Int):Option (Bool×Cur) :=
  Qab (Qan fu c1 n7) λx9=>some (x9.1==0,(⟨c1.fb,x9.2.fi,x9.2.fh⟩:Cur))
def Qb9 (fu:Nat) (c1:Cur) (Ab:List Int):Option (Int×Cur) :=
  Qab (Qan fu c1 (Ab.length:Int)) λAa=>Qab (ix Ab Aa.1) λAc=>some (Ac,(⟨c1.fb,Aa.2.fi,Aa.2.fh⟩:Cur))
def Qg8 (fu:Nat) (Aa:Int→Int→List Pair→Int→Option (Request×Cur)) (Ab:Int) (Ae:Int) (Ad:Int) (Ac:List Pair):Option (Request×Cur) :=
  Aa Ae Ad Ac (w64 (Ab+1))
def Qkm (fu:Nat) (k9:Int→Int→List Pair→Int→Option (Request×Cur)) (c1:Cur) (Ab:Int) (Ae:Int→Int→List Pair→Int→Option (Request×Cur)) (Ag:Int) (Af:Int) (Ad:List Pair) (Aa:Int):Option (Request×Cur) :=
  bif (decide (Aa≤Ab)) then bif (Ab==Aa) then Qab (Qfd 16 Ad (([(⟨Ab,Ab⟩:Pair)]:List Pair))) λAh=>Qg8 fu Ae Aa Ag Af Ah else Qab (Qld fu (⟨c1.fb,Ag,Af⟩:Cur) 2) λAc=>bif Ac.1 then Qab (Qfd 16 Ad (([(⟨Ab,Aa⟩:Pair),(⟨Aa,Ab⟩:Pair)]:List Pair))) λAi=>Qg8 fu Ae Aa Ac.2.fi Ac.2.fh Ai else Qg8 fu Ae Aa Ac.2.fi Ac.2.fh Ad else k9 Ag Af Ad (w64 (Ab+1))
def Qez (fu:Nat) (k9:Int→Int→List Pair→Int→Option (Request×Cur)) (c1:Cur) (Aa:Int):Nat→Int→Int→List Pair→Int→Option (Request×Cur)
  | 0=>λ_ _ _ _=>none
  | n+1=>Qkm fu k9 c1 Aa (Qez fu k9 c1 Aa n)
def Qjb (fu:Nat) (Ad:Int→Int→List Item→Int→Int→Option (Request×Cur)) (Aa:Int) (Ae:Int) (Ab:Int) (Af:List Item) (Ac:Int):Option (Request×Cur) :=
  Ad Ae Ab Af Ac (w64 (Aa+1))
def Qha (fu:Nat) (Ag:Int→Int→List Item→Int→Int→Option (Request×Cur)) (Ac:List Item) (Ab:Int) (Ad:Int) (Af:Int) (Ae:Int) (Aa:Item):Option (Request×Cur) :=
  bif (decide ((w64 (Ab+Aa.fM))≤12)) then Qab (Qfd 56 Ac (([Aa]:List Item))) λAh=>Qjb fu Ag Ad Af Ae Ah (w64 (Ab+Aa.fM)) else Qjb fu Ag Ad Af Ae Ac Ab
def Qnw (fu:Nat) (Ag:Int→Int→List Item→Int→Int→Option (Request×Cur)) (c1:Cur) (Ad:List Item) (Af:Int) (Ae:Int) (Ah:Int) (Ai:Int) (Ab:Item):Option (Request×Cur) :=
  Qab (Qld fu (⟨c1.fb,Ah,Ai⟩:Cur) 3) λAa=>bif Aa.1 then Qab (Qan fu (⟨c1.fb,Aa.2.fi,Aa.2.fh⟩:Cur) 8) λAc=>Qha fu Ag Ad Af Ae Ac.2.fi Ac.2.fh (⟨Ab.f0,5,5,w64 (4+Ac.1),Ab.fQ,Ab.fL,Ab.fM⟩:Item) else Qha fu Ag Ad Af Ae Aa.2.fi Aa.2.fh Ab
def Qj0 (fu:Nat)  (c1:Cur) (Ap:Int×Cur) (Aq:Int×Cur) (Al:Int×Cur) (Ao:Int×Cur) (Au:Int×Cur) (Ah:Int×Cur) (Av:List Pair) (As:List Typ) (At:Int×Cur) (Ar:Int→Int→List Item→Int→Int→Option (Request×Cur)) (Ak:Int) (Aj:Int) (Ai:List Item) (Am:Int) (Ac:Int):Option (Request×Cur) :=
  bif (decide (Ac<At.1)) then Qab (Qan fu (⟨c1.fb,Ak,Aj⟩:Cur) 10) λAd=>Qab (Qan fu (⟨c1.fb,Ad.2.fi,Ad.2.fh⟩:Cur) 10) λAb=>Qab (Qan fu (⟨c1.fb,Ab.2.fi,Ab.2.fh⟩:Cur) 10) λAa=>Qab (Qan fu (⟨c1.fb,Aa.2.fi,Aa.2.fh⟩:Cur) 60) λAg=>Qab (Qan fu (⟨c1.fb,Ag.2.fi,Ag.2.fh⟩:Cur) (w64 (1+Ah.1))) λAe=>Qab (Qan fu (⟨c1.fb,Ae.2.fi,Ae.2.fh⟩:Cur) 4) λAf=>Qnw fu Ar c1 Ai Am Ac Af.2.fi Af.2.fh (⟨w64 (3*Ac),w64 (1+Ad.1),w64 (1+Ab.1),w64 (1+Aa.1),w64 (1+Ag.1),Ae.1,w64 (1+Af.1)⟩:Item) else some ((⟨Ap.1,(⟨Aq.1,Al.1,Ao.1,Au.1⟩:Pallet),w64 (1+Ah.1),Av,As,7,Ai⟩:Request),(⟨c1.fb,Ak,Aj⟩:Cur))
def Qcu (fu:Nat)  (c1:Cur) (Ai:Int×Cur) (Aa:Int×Cur) (Ab:Int×Cur) (Ae:Int×Cur) (Af:Int×Cur) (Ag:Int×Cur) (Ah:List Pair) (Ac:List Typ) (Ad:Int×Cur):Nat→Int→Int→List Item→Int→Int→Option (Request×Cur)
  | 0=>λ_ _ _ _ _=>none
  | n+1=>Qj0 fu c1 Ai Aa Ab Ae Af Ag Ah Ac Ad (Qcu fu c1 Ai Aa Ab Ae Af Ag Ah Ac Ad n)
def Qkk (fu:Nat)  (c1:Cur) (Ao:Int×Cur) (Ap:Int×Cur) (Al:Int×Cur) (Am:Int×Cur) (At:Int×Cur) (As:Int×Cur) (Av:List Pair) (Au:Int×Cur) (Ar:Int→Int→List Typ→Int→Option (Request×Cur)) (Ak:Int) (Aj:Int) (Ai:List Typ) (Ah:Int):Option (Request×Cur) :=
  bif (decide (Ah<Au.1)) then Qab (Qan fu (⟨c1.fb,Ak,Aj⟩:Cur) 9) λAa=>Qab (Qan fu (⟨c1.fb,Aa.2.fi,Aa.2.fh⟩:Cur) 8) λAc=>Qab (Qan fu (⟨c1.fb,Ac.2.fi,Ac.2.fh⟩:Cur) 9) λAe=>Qab (Qan fu (⟨c1.fb,Ae.2.fi,Ae.2.fh⟩:Cur) 5) λAb=>Qab (Qan fu (⟨c1.fb,Ab.2.fi,Ab.2.fh⟩:Cur) 90) λAg=>Qab (Qan fu (⟨c1.fb,Ag.2.fi,Ag.2.fh⟩:Cur) 20) λAd=>Qab (Qfd 56 Ai (([(⟨w64 (10+Ah),w64 (4+Aa.1),w64 (3+Ac.1),w64 (3+Ae.1),Ab.1,w64 (20+Ag.1),w64 (1+Ad.1)⟩:Typ)]:List Typ))) λAq=>Ar Ad.2.fi Ad.2.fh Aq (w64 (Ah+1)) else Qab (Qan fu (⟨c1.fb,Ak,Aj⟩:Cur) 6) λAf=>Qcu fu c1 Ao Ap Al Am At As Av Ai Af fu Af.2.fi Af.2.fh (([]:List Item)) 0 0
def Qf7 (fu:Nat)  (c1:Cur) (Ah:Int×Cur) (Aa:Int×Cur) (Ab:Int×Cur) (Ad:Int×Cur) (Ae:Int×Cur) (Af:Int×Cur) (Ag:List Pair) (Ac:Int×Cur):Nat→Int→Int→List Typ→Int→Option (Request×Cur)
  | 0=>λ_ _ _ _=>none
  | n+1=>Qkk fu c1 Ah Aa Ab Ad Ae Af Ag Ac (Qf7 fu c1 Ah Aa Ab Ad Ae Af Ag Ac n)
def Qn9 (fu:Nat) (c1:Cur) (Ak:Int×Cur) (Ab:Int×Cur) (Ac:Int×Cur) (Ag:Int×Cur) (Ah:Int×Cur) (Af:Int×Cur) (Ai:List Pair) (Aj:Int) (Ad:Int) (Ae:List Typ):Option (Request×Cur) :=
  Qab (Qan fu (⟨c1.fb,Aj,Ad⟩:Cur) 5) λAa=>Qf7 fu c1 Ak Ab Ac Ag Ah Af Ai Aa fu Aa.2.fi Aa.2.fh Ae 0
def Qju (fu:Nat)  (c1:Cur) (Ao:Int×Cur) (Ai:Int×Cur) (Aj:Int×Cur) (Al:Int×Cur) (Am:Int×Cur) (Ad:Int×Cur) (k9:Int→Int→List Pair→Int→Option (Request×Cur)) (Ah:Int) (Ae:Int) (Ag:List Pair) (Af:Int):Option (Request×Cur) :=
  bif (decide (Af<(w64 (1+Ad.1)))) then Qez fu k9 c1 Af fu Ah Ae Ag 0 else Qab (Qan fu (⟨c1.fb,Ah,Ae⟩:Cur) 8) λAb=>Qab (Qb9 fu (⟨c1.fb,Ab.2.fi,Ab.2.fh⟩:Cur) (([60,100,140]:List Int))) λAa=>Qab (Qb9 fu (⟨c1.fb,Aa.2.fi,Aa.2.fh⟩:Cur) (([9,20]:List Int))) λAc=>Qab (Qfd 56 (([]:List Typ)) (([(⟨7,12,10,11,Ab.1,Aa.1,Ac.1⟩:Typ)]:List Typ))) λAk=>Qn9 fu c1 Ao Ai Aj Al Am Ad Ag Ac.2.fi Ac.2.fh Ak
def Qde (fu:Nat)  (c1:Cur) (Af:Int×Cur) (Aa:Int×Cur) (Ab:Int×Cur) (Ac:Int×Cur) (Ad:Int×Cur) (Ae:Int×Cur):Nat→Int→Int→List Pair→Int→Option (Request×Cur)
  | 0=>λ_ _ _ _=>none
  | n+1=>Qju fu c1 Af Aa Ab Ac Ad Ae (Qde fu c1 Af Aa Ab Ac Ad Ae n)
def Ql0 (fu:Nat) (c1:Cur):Option (Request×Cur) :=
  Qab (Qan fu c1 2) λAf=>Qab (Qb9 fu (⟨c1.fb,Af.2.fi,Af.2.fh⟩:Cur) (([20,30,37]:List Int))) λAa=>Qab (Qb9 fu (⟨c1.fb,Aa.2.fi,Aa.2.fh⟩:Cur) (([20,25,40]:List Int))) λAb=>Qab (Qb9 fu (⟨c1.fb,Ab.2.fi,Ab.2.fh⟩:Cur) (([15,24,50]:List Int))) λAc=>Qab (Qb9 fu (⟨c1.fb,Ac.2.fi,Ac.2.fh⟩:Cur) (([150,400,5000]:List Int))) λAd=>Qab (Qan fu (⟨c1.fb,Ad.2.fi,Ad.2.fh⟩:Cur) 4) λAe=>Qde fu c1 Af Aa Ab Ac Ad Ae fu Ae.2.fi Ae.2.fh (([]:List Pair)) 0
def Qa1 (fu:Nat) (x1:Int) (Ab:Int) (Aa:Int):Option (Bool) :=
  bif (decide (x1≥Ab)) then some (decide (x1≤Aa)) else some (false)
def Qd9 (fu:Nat) (x1:Int):Option (Bool) :=
  Qab (Qa1 fu x1 1 2000) λx2=>some (x2)
def Qgm (fu:Nat) (x1:Pallet):Option (Bool) :=
  Qab (Qd9 fu x1.fW) λx5=>bif x5 then Qab (Qd9 fu x1.fD) λAc=>bif Ac then Qab (Qd9 fu x1.fH) λAb=>bif Ab then Qab (Qa1 fu x1.fQ 1 100000) λAa=>some (Aa) else some (false) else some (false) else some (false)
def Qpk (fu:Nat) (x1:Int):Option (Bool) :=
  Qab (Qa1 fu x1 0 999) λx2=>some (x2)
def Qqc (fu:Nat) (x1:Typ):Option (Bool) :=
  Qab (Qpk fu x1.f0) λx5=>bif x5 then Qab (Qd9 fu x1.fW) λAf=>bif Af then Qab (Qd9 fu x1.fH) λAc=>bif Ac then Qab (Qd9 fu x1.fD) λAb=>bif Ab then Qab (Qa1 fu x1.fF 0 100000) λAa=>bif Aa then Qab (Qa1 fu x1.fQ 1 100000) λAd=>bif Ad then Qab (Qa1 fu x1.fE 0 100000) λAe=>some (Ae) else some (false) else some (false) else some (false) else some (false) else some (false) else some (false)
def Qp7 (fu:Nat) (x1:Item):Option (Bool) :=
  Qab (Qpk fu x1.f0) λx5=>bif x5 then Qab (Qd9 fu x1.fW) λAf=>bif Af then Qab (Qd9 fu x1.fH) λAc=>bif Ac then Qab (Qd9 fu x1.fD) λAb=>bif Ab then Qab (Qa1 fu x1.fQ 1 100000) λAa=>bif Aa then Qab (Qa1 fu x1.fL 0 3) λAd=>bif Ad then Qab (Qa1 fu x1.fM 1 6) λAe=>some (Ae) else some (false) else some (false) else some (false) else some (false) else some (false) else some (false)
def Qmh (fu:Nat) (k4:Int→Option (Bool)) (Aa:Int)  : Option (Bool) :=
  k4 (w64 (Aa+1))
def Qis (fu:Nat)  (r1:Request) (k7:Int→Int→Option (Bool)) (Ab:Int) (Aa:Int):Option (Bool) :=
  bif (decide (Aa<(r1.fV.length:Int))) then Qab (ix r1.fV Aa) λAc=>Qab (Qp7 fu Ac) λAd=>bif (!Ad) then some (false) else Qab (ix r1.fV Aa) λAe=>k7 (w64 (Ab+Ac.fM)) (w64 (Aa+1)) else some (decide (Ab≤12))
def Qdm (fu:Nat)  (r1:Request):Nat→Int→Int→Option (Bool)
  | 0=>λ_ _=>none
  | n+1=>Qis fu r1 (Qdm fu r1 n)
def Qit (fu:Nat)  (r1:Request) (k6:Int→Option (Bool)) (Aa:Int):Option (Bool) :=
  bif (decide (Aa<(r1.fG.length:Int))) then Qab (ix r1.fG Aa) λAb=>Qab (Qqc fu Ab) λAc=>bif (!Ac) then some (false) else k6 (w64 (Aa+1)) else Qdm fu r1 fu 0 0
def Qdp (fu:Nat)  (r1:Request):Nat→Int→Option (Bool)
  | 0=>λ_=>none
  | n+1=>Qit fu r1 (Qdp fu r1 n)
def Qiv (fu:Nat)  (r1:Request) (k4:Int→Option (Bool)) (Aa:Int):Option (Bool) :=
  bif (decide (Aa<(r1.fT.length:Int))) then Qab (ix r1.fT Aa) λAb=>Qab (Qa1 fu Ab.fA 0 3) λAd=>bif (!Ad) then some (false) else Qab (ix r1.fT Aa) λAe=>Qab (Qa1 fu Ab.fB 0 3) λAc=>bif (!Ac) then some (false) else Qmh fu k4 Aa else Qdp fu r1 fu 0
def Qdo (fu:Nat)  (r1:Request):Nat→Int→Option (Bool)
  | 0=>λ_=>none
  | n+1=>Qiv fu r1 (Qdo fu r1 n)
def Qmn (fu:Nat) (r1:Request)  : Option (Bool) :=
  Qdo fu r1 fu 0
def Qm1 (fu:Nat) (r1:Request):Option (Bool) :=
  Qab (Qa1 fu r1.fO 0 1) λAa=>bif (!Aa) then some (false) else Qab (Qgm fu r1.fJ) λAd=>bif (!Ad) then some (false) else Qab (Qa1 fu r1.fU 1 4) λAe=>bif (!Ae) then some (false) else bif (decide ((r1.fT.length:Int)>16)) then some (false) else Qab (Qa1 fu (r1.fG.length:Int) 1 5) λAb=>bif (!Ab) then some (false) else Qab (Qpk fu r1.fR) λAc=>bif (!Ac) then some (false) else bif (decide ((r1.fV.length:Int)>8)) then some (false) else Qmn fu r1
def Qiq (fu:Nat)  (r1:Request) (k1:Int→Option (Typ×Bool)) (Aa:Int):Option (Typ×Bool) :=
  bif (decide (Aa<(r1.fG.length:Int))) then Qab (ix r1.fG Aa) λAb=>bif (Ab.f0==r1.fR) then Qab (ix r1.fG Aa) λAc=>some (Ab,true) else k1 (w64 (Aa+1)) else some ((⟨0,0,0,0,0,0,0⟩:Typ),false)
def Qfn (fu:Nat)  (r1:Request):Nat→Int→Option (Typ×Bool)
  | 0=>λ_=>none
  | n+1=>Qiq fu r1 (Qfn fu r1 n)
def Qfk (fu:Nat) (r1:Request):Option (Typ×Bool) :=
  Qfn fu r1 fu 0
def Qk1 (fu:Nat) (k3:Int→Option (Bool)) (r1:Request) (Ab:Int) (k4:Int→Option (Bool)) (Aa:Int):Option (Bool) :=
  bif (decide (Aa<Ab)) then Qab (ix r1.fG Ab) λAc=>Qab (ix r1.fG Aa) λAd=>bif (Ac.f0==Ad.f0) then some (false) else k4 (w64 (Aa+1)) else k3 (w64 (Ab+1))
def Qd4 (fu:Nat) (k3:Int→Option (Bool)) (r1:Request) (Aa:Int):Nat→Int→Option (Bool)
  | 0=>λ_=>none
  | n+1=>Qk1 fu k3 r1 Aa (Qd4 fu k3 r1 Aa n)
def Qj6 (fu:Nat) (k7:Int→Option (Bool)) (r1:Request) (Aa:Int) (k8:Int→Option (Bool)) (Ab:Int):Option (Bool) :=
  bif (decide (Ab<Aa)) then Qab (ix r1.fV Aa) λAd=>Qab (ix r1.fV Ab) λAc=>bif (Ad.f0==Ac.f0) then some (false) else k8 (w64 (Ab+1)) else k7 (w64 (Aa+1))
def Qd6 (fu:Nat) (k7:Int→Option (Bool)) (r1:Request) (Aa:Int):Nat→Int→Option (Bool)
  | 0=>λ_=>none
  | n+1=>Qj6 fu k7 r1 Aa (Qd6 fu k7 r1 Aa n)
def Qnh (fu:Nat) (Aa:Int→Option (Bool)) (Ab:Int)  : Option (Bool) :=
  Aa (w64 (Ab+1))
def Qk3 (fu:Nat)  (r1:Request) (Ac:Int→Option (Bool)) (Aa:Int):Option (Bool) :=
  bif (decide (Aa<(r1.fT.length:Int))) then Qab (ix r1.fT Aa) λAb=>bif (decide (Ab.fA≥r1.fU)) then some (false) else Qab (ix r1.fT Aa) λAe=>bif (decide (Ab.fB≥r1.fU)) then some (false) else Qnh fu Ac Aa else Qab (Qfk fu r1) λAd=>some (Ad.2)
def Qdf (fu:Nat)  (r1:Request):Nat→Int→Option (Bool)
  | 0=>λ_=>none
  | n+1=>Qk3 fu r1 (Qdf fu r1 n)
def Qj8 (fu:Nat)  (r1:Request) (k7:Int→Option (Bool)) (Aa:Int):Option (Bool) :=
  bif (decide (Aa<(r1.fV.length:Int))) then Qab (ix r1.fV Aa) λAb=>bif (decide (Ab.fL≥r1.fU)) then some (false) else Qd6 fu k7 r1 Aa fu 0 else Qdf fu r1 fu 0
def Qbf (fu:Nat)  (r1:Request):Nat→Int→Option (Bool)
  | 0=>λ_=>none
  | n+1=>Qj8 fu r1 (Qbf fu r1 n)
def Qjy (fu:Nat)  (r1:Request) (k3:Int→Option (Bool)) (Aa:Int):Option (Bool) :=
  bif (decide (Aa<(r1.fG.length:Int))) then Qd4 fu k3 r1 Aa fu 0 else Qbf fu r1 fu 0
def Qbl (fu:Nat)  (r1:Request):Nat→Int→Option (Bool)
  | 0=>λ_=>none
  | n+1=>Qjy fu r1 (Qbl fu r1 n)
def Qor (fu:Nat) (r1:Request):Option (Bool) :=
  Qbl fu r1 fu 0
def Qlq (fu:Nat) (k3:Int→Option (Bool)) (Aa:Int)  : Option (Bool) :=
  k3 (w64 (Aa+1))
def Ql4 (fu:Nat)  (Ab:List Pair) (a5:Int) (b6:Int) (k3:Int→Option (Bool)) (Aa:Int):Option (Bool) :=
  bif (decide (Aa<(Ab.length:Int))) then Qab (ix Ab Aa) λAc=>bif (Ac.fA==a5) then Qab (ix Ab Aa) λAd=>bif (Ac.fB==b6) then some (true) else Qlq fu k3 Aa else Qlq fu k3 Aa else some (false)
def Qfz (fu:Nat)  (Aa:List Pair) (a5:Int) (b6:Int):Nat→Int→Option (Bool)
  | 0=>λ_=>none
  | n+1=>Ql4 fu Aa a5 b6 (Qfz fu Aa a5 b6 n)
def Qfj (fu:Nat) (Aa:List Pair) (a5:Int) (b6:Int):Option (Bool) :=
  Qfz fu Aa a5 b6 fu 0
def Qi7 (fu:Nat) (Aa:Int→Option (Bool)) (Ab:Int)  : Option (Bool) :=
  Aa (w64 (Ab+1))
def Qjs (fu:Nat) (k9:Int→Option (Bool)) (Ac:List Pair) (Aj:Int) (Ab:Int) (Ad:Int→Option (Bool)) (Aa:Int):Option (Bool) :=
  bif (decide (Aa<Aj)) then bif (Ab==Aa) then Qab (Qfj fu Ac Ab Ab) λAi=>bif (!Ai) then some (false) else Qab (Qfj fu Ac Ab Aa) λAh=>Qab (Qfj fu Ac Aa Ab) λAg=>bif (!(Ah==Ag)) then some (false) else Qi7 fu Ad Aa else Qab (Qfj fu Ac Ab Aa) λAe=>Qab (Qfj fu Ac Aa Ab) λAf=>bif (!(Ae==Af)) then some (false) else Qi7 fu Ad Aa else k9 (w64 (Ab+1))
def Qd7 (fu:Nat) (k9:Int→Option (Bool)) (Aa:List Pair) (Ab:Int) (Ac:Int):Nat→Int→Option (Bool)
  | 0=>λ_=>none
  | n+1=>Qjs fu k9 Aa Ab Ac (Qd7 fu k9 Aa Ab Ac n)
def Qks (fu:Nat)  (Ac:List Pair) (Aa:Int) (k9:Int→Option (Bool)) (Ab:Int):Option (Bool) :=
  bif (decide (Ab<Aa)) then Qd7 fu k9 Ac Aa Ab fu 0 else some (true)
def Qdi (fu:Nat)  (Aa:List Pair) (Ab:Int):Nat→Int→Option (Bool)
  | 0=>λ_=>none
  | n+1=>Qks fu Aa Ab (Qdi fu Aa Ab n)
def Qoi (fu:Nat) (Ab:List Pair) (Aa:Int):Option (Bool) :=
  Qab (Qa1 fu Aa 1 4) λx6=>bif (!x6) then some (false) else Qdi fu Ab Aa fu 0
def Qil (fu:Nat)  (n1:Int) (k1:List Int→Int→Option ((List Int))) (Ab:List Int) (Aa:Int):Option ((List Int)) :=
  bif (decide (Aa<n1)) then Qab (Qfd 8 Ab (([Aa]:List Int))) λAc=>k1 Ac (w64 (Aa+1)) else some (Ab)
def Qfo (fu:Nat)  (n1:Int):Nat→List Int→Int→Option ((List Int))
  | 0=>λ_ _=>none
  | n+1=>Qil fu n1 (Qfo fu n1 n)
def Qi2 (fu:Nat) (n1:Int):Option ((List Int)) :=
  Qfo fu n1 fu (([]:List Int)) 0
def Qg9 (fu:Nat) (k3:List Int→Int→Int→Option ((List Int))) (Ag:List Int) (Ai:Bool) (Ac:(List Int)) (Ae:(List Int)) (Ad:List Int) (Aa:Int) (Ab:Int)  : Option ((List Int)) :=
  bif (Ab==(Ae.length:Int)) then Qab (ix Ac Aa) λAu=>Qab (Qfd 8 Ad (([Au]:List Int))) λAq=>k3 Aq (w64 (Aa+1)) Ab else bif (Aa==(Ac.length:Int)) then Qab (ix Ae Ab) λAt=>Qab (Qfd 8 Ad (([At]:List Int))) λAv=>k3 Av Aa (w64 (Ab+1)) else Qab (ix Ae Ab) λAh=>Qab (ix Ag Ah) λAj=>Qab (ix Ac Aa) λAf=>Qab (ix Ag Af) λAk=>bif (decide (Aj<Ak)) then bif (!Ai) then Qab (ix Ae Ab) λAz=>Qab (Qfd 8 Ad (([Ah]:List Int))) λAl=>k3 Al Aa (w64 (Ab+1)) else Qab (ix Ae Ab) λBk=>Qab (ix Ag Ah) λAx=>Qab (ix Ac Aa) λBi=>Qab (ix Ag Af) λBf=>bif (decide (Aj>Ak)) then bif Ai then Qab (ix Ae Ab) λBa=>Qab (Qfd 8 Ad (([Ah]:List Int))) λAs=>k3 As Aa (w64 (Ab+1)) else Qab (ix Ac Aa) λBj=>Qab (Qfd 8 Ad (([Af]:List Int))) λAm=>k3 Am (w64 (Aa+1)) Ab else Qab (ix Ac Aa) λAy=>Qab (Qfd 8 Ad (([Af]:List Int))) λAr=>k3 Ar (w64 (Aa+1)) Ab else Qab (ix Ae Ab) λBb=>Qab (ix Ag Ah) λBg=>Qab (ix Ac Aa) λBl=>Qab (ix Ag Af) λBc=>bif (decide (Aj>Ak)) then bif Ai then Qab (ix Ae Ab) λBd=>Qab (Qfd 8 Ad (([Ah]:List Int))) λAp=>k3 Ap Aa (w64 (Ab+1)) else Qab (ix Ac Aa) λBh=>Qab (Qfd 8 Ad (([Af]:List Int))) λAw=>k3 Aw (w64 (Aa+1)) Ab else Qab (ix Ac Aa) λBe=>Qab (Qfd 8 Ad (([Af]:List Int))) λAo=>k3 Ao (w64 (Aa+1)) Ab
def Qkf (fu:Nat)  (Af:List Int) (Ag:Bool) (Ab:(List Int)) (Ae:(List Int)) (k3:List Int→Int→Int→Option ((List Int))) (Ad:List Int) (Ac:Int) (Aa:Int):Option ((List Int)) :=
  bif (decide (Ac<(Ab.length:Int))) then Qg9 fu k3 Af Ag Ab Ae Ad Ac Aa else bif (decide (Aa<(Ae.length:Int))) then Qg9 fu k3 Af Ag Ab Ae Ad Ac Aa else some (Ad)
def Qcj (fu:Nat)  (Ac:List Int) (Aa:Bool) (Ad:(List Int)) (Ab:(List Int)):Nat→List Int→Int→Int→Option ((List Int))
  | 0=>λ_ _ _=>none
  | n+1=>Qkf fu Ac Aa Ad Ab (Qcj fu Ac Aa Ad Ab n)
def Qqo (fu:Nat) (self:List Int→List Int→Bool→Option ((List Int))) (Ab:List Int) (Aa:List Int) (Ac:Bool):Option ((List Int)) :=
  bif (decide ((Aa.length:Int)<2)) then Qab (Qfd 8 (([]:List Int)) Aa) λAd=>some (Ad) else Qab (sls Aa 0 (w64 (Int.tdiv (Aa.length:Int) 2))) λAg=>Qab (self Ab Ag Ac) λAf=>Qab (sls Aa (w64 (Int.tdiv (Aa.length:Int) 2)) (Aa.length:Int)) λAe=>Qab (self Ab Ae Ac) λAh=>Qcj fu Ab Ac Af Ah fu (([]:List Int)) 0 0
def Qhq (fu:Nat):Nat→List Int→List Int→Bool→Option ((List Int))
  | 0=>λ_ _ _=>none
  | n+1=>Qqo fu (Qhq fu n)
def Qo4 (fu:Nat) (Ac:List Int) (Ab:List Int) (Aa:Bool):Option ((List Int)):=Qhq fu fu Ac Ab Aa
def Qnj (fu:Nat) (Aa:List Int):Option ((List Int)) :=
  Qab (Qi2 fu (Aa.length:Int)) λx5=>Qab (Qo4 fu Aa x5 false) λAb=>some (Ab)
def Qlw (fu:Nat) (Aa:Int) (h2:Int) (d3:Int):Option ((List Int)) :=
  Qab (Qnj fu (([Aa,h2,d3]:List Int))) λx9=>Qab (ix x9 0) λAg=>Qab (ix (([Aa,h2,d3]:List Int)) Ag) λAd=>Qab (ix x9 1) λAb=>Qab (ix (([Aa,h2,d3]:List Int)) Ab) λAc=>Qab (ix x9 2) λAf=>Qab (ix (([Aa,h2,d3]:List Int)) Af) λAe=>some (([Ad,Ac,Ae]:List Int))
def Qpl (fu:Nat) (x1:Item) (t2:Typ):Option (Bool) :=
  Qab (Qlw fu x1.fW x1.fH x1.fD) λAb=>Qab (Qlw fu t2.fW t2.fH t2.fD) λAa=>Qab (ix Ab 0) λAd=>Qab (ix Aa 0) λAe=>bif (decide (Ad≤Ae)) then Qab (ix Ab 1) λAf=>Qab (ix Aa 1) λAg=>bif (decide (Af≤Ag)) then Qab (ix Ab 2) λAc=>Qab (ix Aa 2) λAh=>bif (decide (Ac≤Ah)) then some (decide (x1.fQ≤t2.fQ)) else some (false) else some (false) else some (false)
def Qqb (fu:Nat) (k4:Int→Option (Int)) (Aa:Int)  : Option (Int) :=
  k4 (w64 (Aa+1))
def Qnv (fu:Nat)  (r1:Request) (k4:Int→Option (Int)) (Ab:Int):Option (Int) :=
  bif (decide (Ab<(r1.fG.length:Int))) then Qab (ix r1.fG Ab) λAa=>bif (decide (Aa.fW>r1.fJ.fW)) then some (6) else bif (decide (Aa.fD>r1.fJ.fD)) then some (6) else bif (decide (Aa.fH>r1.fJ.fH)) then some (6) else bif (decide ((w64 (Aa.fF+Aa.fQ))>r1.fJ.fQ)) then some (6) else Qqb fu k4 Ab else some (0)
def Qfq (fu:Nat)  (r1:Request):Nat→Int→Option (Int)
  | 0=>λ_=>none
  | n+1=>Qnv fu r1 (Qfq fu r1 n)
def Qn2 (fu:Nat)  (r1:Request) (Ab:Typ×Bool) (k1:Int→Option (Int)) (Aa:Int):Option (Int) :=
  bif (decide (Aa<(r1.fV.length:Int))) then Qab (ix r1.fV Aa) λAc=>Qab (Qpl fu Ac Ab.1) λAd=>bif (!Ad) then some (5) else k1 (w64 (Aa+1)) else Qfq fu r1 fu 0
def Qgk (fu:Nat)  (r1:Request) (Aa:Typ×Bool):Nat→Int→Option (Int)
  | 0=>λ_=>none
  | n+1=>Qn2 fu r1 Aa (Qgk fu r1 Aa n)
def Qey (fu:Nat) (r1:Request):Option (Int) :=
  Qab (Qm1 fu r1) λAb=>bif (!Ab) then some (2) else Qab (Qor fu r1) λAa=>bif (!Aa) then some (3) else Qab (Qoi fu r1.fT r1.fU) λAd=>bif (!Ad) then some (4) else Qab (Qfk fu r1) λAc=>Qgk fu r1 Ac fu 0
def Qlj (fu:Nat) (k3:List Item→Int→Option (Request×Cur)) (Ab:Int) (Aa:List Item):Option (Request×Cur) :=
  k3 Aa (w64 (Ab+1))
def Qmo (fu:Nat)  (c1:Cur) (Aa:Request×Cur) (Ae:Typ×Bool) (k3:List Item→Int→Option (Request×Cur)) (Ac:List Item) (Ab:Int):Option (Request×Cur) :=
  bif (decide (Ab<(Aa.1.fV.length:Int))) then Qab (ix Aa.1.fV Ab) λAd=>Qab (Qpl fu Ad Ae.1) λAf=>bif Af then Qab (ix Aa.1.fV Ab) λAh=>Qab (Qfd 56 Ac (([Ad]:List Item))) λAg=>Qlj fu k3 Ab Ag else Qlj fu k3 Ab Ac else some ((⟨Aa.1.fO,(⟨30,25,24,400⟩:Pallet),Aa.1.fU,Aa.1.fT,Aa.1.fG,Aa.1.fR,Ac⟩:Request),(⟨c1.fb,Aa.2.fi,Aa.2.fh⟩:Cur))
def Qfw (fu:Nat)  (c1:Cur) (Ab:Request×Cur) (Aa:Typ×Bool):Nat→List Item→Int→Option (Request×Cur)
  | 0=>λ_ _=>none
  | n+1=>Qmo fu c1 Ab Aa (Qfw fu c1 Ab Aa n)
def Qqi (fu:Nat) (c1:Cur):Option (Request×Cur) :=
  Qab (Ql0 fu c1) λAa=>Qab (Qey fu Aa.1) λAb=>bif (Ab != 0) then Qab (Qfk fu ((⟨Aa.1.fO,(⟨30,25,24,400⟩:Pallet),Aa.1.fU,Aa.1.fT,Aa.1.fG,Aa.1.fR,Aa.1.fV⟩:Request))) λAc=>Qfw fu c1 Aa Ac fu (([]:List Item)) 0 else some (Aa.1,(⟨c1.fb,Aa.2.fi,Aa.2.fh⟩:Cur))
def Qa7 (fu:Nat) (c1:Cur) (Aa:Request×Cur) (Ai:Int) (Ab:Int) (Aj:Int) (Ae:Int) (Ac:List Pair) (Af:List Typ) (Ag:Int) (Ad:List Item) (Ak:Int) (Ah:Int):Option (Request×Cur) :=
  some ((⟨Ai,(⟨Ab,Aa.1.fJ.fD,Aa.1.fJ.fH,Aj⟩:Pallet),Ae,Ac,Af,Ag,Ad⟩:Request),(⟨c1.fb,Ak,Ah⟩:Cur))
def Qqa (fu:Nat) (c1:Cur):Option (Request×Cur) :=
  Qab (Ql0 fu c1) λAa=>Qab (Qb9 fu (⟨c1.fb,Aa.2.fi,Aa.2.fh⟩:Cur) (([(-1),0,2001,100001,1000,9223372036854775807]:List Int))) λAc=>Qab (Qan fu (⟨c1.fb,Ac.2.fi,Ac.2.fh⟩:Cur) 20) λAb=>bif (Ab.1==0) then Qab (Qb9 fu (⟨c1.fb,Ab.2.fi,Ab.2.fh⟩:Cur) (([(-1),2]:List Int))) λAh=>Qa7 fu c1 Aa Ah.1 Aa.1.fJ.fW Aa.1.fJ.fQ Aa.1.fU Aa.1.fT Aa.1.fG Aa.1.fR Aa.1.fV Ah.2.fi Ah.2.fh else bif (Ab.1==1) then Qa7 fu c1 Aa Aa.1.fO Ac.1 Aa.1.fJ.fQ Aa.1.fU Aa.1.fT Aa.1.fG Aa.1.fR Aa.1.fV Ab.2.fi Ab.2.fh else bif (Ab.1==2) then Qa7 fu c1 Aa Aa.1.fO Aa.1.fJ.fW Ac.1 Aa.1.fU Aa.1.fT Aa.1.fG Aa.1.fR Aa.1.fV Ab.2.fi Ab.2.fh else bif (Ab.1==3) then Qab (Qb9 fu (⟨c1.fb,Ab.2.fi,Ab.2.fh⟩:Cur) (([0,5,1]:List Int))) λAf=>Qa7 fu c1 Aa Aa.1.fO Aa.1.fJ.fW Aa.1.fJ.fQ Af.1 Aa.1.fT Aa.1.fG Aa.1.fR Aa.1.fV Af.2.fi Af.2.fh else bif (Ab.1==4) then Qab (Qan fu (⟨c1.fb,Ab.2.fi,Ab.2.fh⟩:Cur) 6) λAg=>Qab (Qan fu (⟨c1.fb,Ag.2.fi,Ag.2.fh⟩:Cur) 4) λAk=>Qab (Qfd 16 Aa.1.fT (([(⟨w64 (Ag.1 - 1),Ak.1⟩:Pair)]:List Pair))) λAr=>Qa7 fu c1 Aa Aa.1.fO Aa.1.fJ.fW Aa.1.fJ.fQ Aa.1.fU Ar Aa.1.fG Aa.1.fR Aa.1.fV Ak.2.fi Ak.2.fh else bif (Ab.1==5) then Qab (ix Aa.1.fG 0) λAp=>Qa7 fu c1 Aa Aa.1.fO Aa.1.fJ.fW Aa.1.fJ.fQ Aa.1.fU Aa.1.fT (Qim Aa.1.fG 0 ({ Ap with fH:=Ac.1 })) Aa.1.fR Aa.1.fV Ab.2.fi Ab.2.fh else bif (Ab.1==6) then Qab (Qan fu (⟨c1.fb,Ab.2.fi,Ab.2.fh⟩:Cur) (Aa.1.fG.length:Int)) λAd=>Qab (ix Aa.1.fG Ad.1) λAo=>Qa7 fu c1 Aa Aa.1.fO Aa.1.fJ.fW Aa.1.fJ.fQ Aa.1.fU Aa.1.fT (Qim Aa.1.fG Ad.1 ({ Ao with fQ:=Ac.1 })) Aa.1.fR Aa.1.fV Ad.2.fi Ad.2.fh else bif (Ab.1==7) then Qab (Qb9 fu (⟨c1.fb,Ab.2.fi,Ab.2.fh⟩:Cur) (([8,(-1),1000]:List Int))) λAj=>Qa7 fu c1 Aa Aa.1.fO Aa.1.fJ.fW Aa.1.fJ.fQ Aa.1.fU Aa.1.fT Aa.1.fG Aj.1 Aa.1.fV Aj.2.fi Aj.2.fh else bif (Ab.1==8) then Qab (Qan fu (⟨c1.fb,Ab.2.fi,Ab.2.fh⟩:Cur) 5) λAi=>Qab (Qan fu (⟨c1.fb,Ai.2.fi,Ai.2.fh⟩:Cur) 8) λAe=>Qab (Qfd 56 Aa.1.fV (([(⟨3,1,2,3,4,Ai.1,Ae.1⟩:Item)]:List Item))) λAm=>Qa7 fu c1 Aa Aa.1.fO Aa.1.fJ.fW Aa.1.fJ.fQ Aa.1.fU Aa.1.fT Aa.1.fG Aa.1.fR Am Ae.2.fi Ae.2.fh else bif (Ab.1==9) then bif (decide ((Aa.1.fV.length:Int)>0)) then Qab (ix Aa.1.fV 0) λAt=>Qa7 fu c1 Aa Aa.1.fO Aa.1.fJ.fW Aa.1.fJ.fQ Aa.1.fU Aa.1.fT Aa.1.fG Aa.1.fR (Qim Aa.1.fV 0 ({ At with fD:=Ac.1 })) Ab.2.fi Ab.2.fh else Qa7 fu c1 Aa Aa.1.fO Aa.1.fJ.fW Aa.1.fJ.fQ Aa.1.fU Aa.1.fT Aa.1.fG Aa.1.fR Aa.1.fV Ab.2.fi Ab.2.fh else bif (Ab.1==10) then bif (decide ((Aa.1.fT.length:Int)>0)) then Qab (sls Aa.1.fT 1 (Aa.1.fT.length:Int)) λAs=>Qa7 fu c1 Aa Aa.1.fO Aa.1.fJ.fW Aa.1.fJ.fQ Aa.1.fU As Aa.1.fG Aa.1.fR Aa.1.fV Ab.2.fi Ab.2.fh else Qa7 fu c1 Aa Aa.1.fO Aa.1.fJ.fW Aa.1.fJ.fQ Aa.1.fU Aa.1.fT Aa.1.fG Aa.1.fR Aa.1.fV Ab.2.fi Ab.2.fh else bif (Ab.1==11) then Qab (ix Aa.1.fG 0) λAq=>Qab (Qfd 56 Aa.1.fG (([Aq]:List Typ))) λAl=>Qa7 fu c1 Aa Aa.1.fO Aa.1.fJ.fW Aa.1.fJ.fQ Aa.1.fU Aa.1.fT Al Aa.1.fR Aa.1.fV Ab.2.fi Ab.2.fh else bif (Ab.1==12) then Qa7 fu c1 Aa Aa.1.fO Aa.1.fJ.fW Aa.1.fJ.fQ Aa.1.fU Aa.1.fT (([]:List Typ)) Aa.1.fR Aa.1.fV Ab.2.fi Ab.2.fh else Qa7 fu c1 Aa Aa.1.fO Aa.1.fJ.fW Aa.1.fJ.fQ Aa.1.fU Aa.1.fT Aa.1.fG Aa.1.fR Aa.1.fV Ab.2.fi Ab.2.fh
def Qle (fu:Nat) (Ab:List U8):Option (Request) :=
  Qab (Qq6 fu Ab) λx8=>Qab (Qld fu (⟨Ab,x8.fi,x8.fh⟩:Cur) 2) λAa=>bif Aa.1 then Qab (Qqi fu (⟨Ab,Aa.2.fi,Aa.2.fh⟩:Cur)) λAc=>some (Ac.1) else Qab (Qqa fu (⟨Ab,Aa.2.fi,Aa.2.fh⟩:Cur)) λAd=>some (Ad.1)
def Qnd (fu:Nat) (Aa:List U8):Option (Request) :=
  Qab (Qle fu Aa) λx8=>some (x8)
def Qnl (fu:Nat) (t1:Typ) (x2:Int):Option (Bool) :=
  some (t1.f0==x2)
def Qb2 (fu:Nat)  (Ab:List Typ) (f5:Typ→Option Bool) (k1:Int→Option (Int)) (Aa:Int):Option (Int) :=
  bif (decide (Aa<(Ab.length:Int))) then Qab (ix Ab Aa) λAc=>Qab (f5 Ac) λAd=>bif Ad then some (Aa) else k1 (w64 (Aa+1)) else some ((-1))
def Qav (fu:Nat)  (Aa:List Typ) (f5:Typ→Option Bool):Nat→Int→Option (Int)
  | 0=>λ_=>none
  | n+1=>Qb2 fu Aa f5 (Qav fu Aa f5 n)
def Qa9 (fu:Nat) (Aa:List Typ) (f5:Typ→Option Bool):Option (Int) :=
  Qav fu Aa f5 fu 0
def Qhj (fu:Nat) (r1:Request) (Ab:Int):Option (Typ×Bool) :=
  Qab (Qa9 fu r1.fG (λAd=>Qnl fu Ad Ab)) λAa=>bif (decide (Aa<0)) then some ((⟨0,0,0,0,0,0,0⟩:Typ),false) else Qab (ix r1.fG Aa) λAc=>some (Ac,true)
def Qhd (fu:Nat) (r1:Request):Option (Typ×Bool) :=
  Qab (Qhj fu r1 r1.fR) λAa=>some (Aa.1,Aa.2)
def Qar (fu:Nat) (n1:Int) (Ab:Int) (Aa:Int):Option (Bool) :=
  bif (decide (n1≥Ab)) then some (decide (n1≤Aa)) else some (false)
def Qds (fu:Nat) (n1:Int):Option (Bool) :=
  Qab (Qar fu n1 1 2000) λx2=>some (x2)
def Qek (fu:Nat) (x1:Pallet):Option (Bool) :=
  Qab (Qds fu x1.fW) λx5=>bif x5 then Qab (Qds fu x1.fD) λAc=>bif Ac then Qab (Qds fu x1.fH) λAb=>bif Ab then Qab (Qar fu x1.fQ 1 100000) λAa=>some (Aa) else some (false) else some (false) else some (false)
def Qb4 (fu:Nat)  (Ab:List Pair) (f5:Pair→Option Bool) (k1:Int→Option (Int)) (Aa:Int):Option (Int) :=
  bif (decide (Aa<(Ab.length:Int))) then Qab (ix Ab Aa) λAc=>Qab (f5 Ac) λAd=>bif Ad then some (Aa) else k1 (w64 (Aa+1)) else some ((-1))
def Qau (fu:Nat)  (Aa:List Pair) (f5:Pair→Option Bool):Nat→Int→Option (Int)
  | 0=>λ_=>none
  | n+1=>Qb4 fu Aa f5 (Qau fu Aa f5 n)
def Qbr (fu:Nat) (Aa:List Pair) (f5:Pair→Option Bool):Option (Int) :=
  Qau fu Aa f5 fu 0
def Qax (fu:Nat) (Aa:List Pair) (f5:Pair→Option Bool):Option (Bool) :=
  Qab (Qbr fu Aa f5) λAb=>some (decide (Ab≥0))
def Qjk (fu:Nat) (p1:Pair):Option (Bool) :=
  Qab (Qar fu p1.fA 0 3) λx5=>bif (!x5) then some (true) else Qab (Qar fu p1.fB 0 3) λAa=>some (!Aa)
def Qam (fu:Nat) (Aa:List Typ) (f5:Typ→Option Bool):Option (Bool) :=
  Qab (Qa9 fu Aa f5) λAb=>some (decide (Ab≥0))
def Qp5 (fu:Nat) (x1:Typ):Option (Bool) :=
  Qab (Qar fu x1.f0 0 999) λx5=>bif x5 then Qab (Qds fu x1.fW) λAf=>bif Af then Qab (Qds fu x1.fH) λAc=>bif Ac then Qab (Qds fu x1.fD) λAb=>bif Ab then Qab (Qar fu x1.fF 0 100000) λAa=>bif Aa then Qab (Qar fu x1.fQ 1 100000) λAd=>bif Ad then Qab (Qar fu x1.fE 0 100000) λAe=>some (Ae) else some (false) else some (false) else some (false) else some (false) else some (false) else some (false)
def Qjd (fu:Nat) (t1:Typ):Option (Bool) :=
  Qab (Qp5 fu t1) λx5=>some (!x5)
def Qpz (fu:Nat) (x1:Item):Option (Bool) :=
  Qab (Qar fu x1.f0 0 999) λx5=>bif x5 then Qab (Qds fu x1.fW) λAf=>bif Af then Qab (Qds fu x1.fH) λAc=>bif Ac then Qab (Qds fu x1.fD) λAb=>bif Ab then Qab (Qar fu x1.fQ 1 100000) λAa=>bif Aa then Qab (Qar fu x1.fL 0 3) λAd=>bif Ad then Qab (Qar fu x1.fM 1 6) λAe=>some (Ae) else some (false) else some (false) else some (false) else some (false) else some (false) else some (false)
def Qik (fu:Nat)  (r1:Request) (k3:Int→Int→Option (Bool)) (Ab:Int) (Aa:Int):Option (Bool) :=
  bif (decide (Aa<(r1.fV.length:Int))) then Qab (ix r1.fV Aa) λAc=>Qab (Qpz fu Ac) λAd=>bif (!Ad) then some (false) else k3 (w64 (Ab+Ac.fM)) (w64 (Aa+1)) else some (decide (Ab≤12))
def Qed (fu:Nat)  (r1:Request):Nat→Int→Int→Option (Bool)
  | 0=>λ_ _=>none
  | n+1=>Qik fu r1 (Qed fu r1 n)
def Ql7 (fu:Nat) (r1:Request)  : Option (Bool) :=
  Qed fu r1 fu 0 0
def Qma (fu:Nat) (r1:Request)  : Option (Bool) :=
  Qab (Qax fu r1.fT (λAc=>Qjk fu Ac)) λAf=>bif Af then some (false) else Qab (Qar fu (r1.fG.length:Int) 1 5) λAb=>bif (!Ab) then some (false) else Qab (Qam fu r1.fG (λAe=>Qjd fu Ae)) λAd=>bif Ad then some (false) else Qab (Qar fu r1.fR 0 999) λAa=>bif (!Aa) then some (false) else bif (decide ((r1.fV.length:Int)>8)) then some (false) else Ql7 fu r1
def Qm4 (fu:Nat) (r1:Request):Option (Bool) :=
  Qab (Qar fu r1.fO 0 1) λAa=>bif (!Aa) then some (false) else Qab (Qek fu r1.fJ) λAc=>bif (!Ac) then some (false) else Qab (Qar fu r1.fU 1 4) λAb=>bif (!Ab) then some (false) else bif (decide ((r1.fT.length:Int)>16)) then some (false) else Qma fu r1
def Qpd (fu:Nat) (q1:Typ) (x2:Typ):Option (Bool) :=
  some (q1.f0==x2.f0)
def Qpf (fu:Nat) (q1:Item) (x2:Item):Option (Bool) :=
  some (q1.f0==x2.f0)
def Qb3 (fu:Nat)  (Ab:List Item) (f5:Item→Option Bool) (k1:Int→Option (Int)) (Aa:Int):Option (Int) :=
  bif (decide (Aa<(Ab.length:Int))) then Qab (ix Ab Aa) λAc=>Qab (f5 Ac) λAd=>bif Ad then some (Aa) else k1 (w64 (Aa+1)) else some ((-1))
def Qat (fu:Nat)  (Aa:List Item) (f5:Item→Option Bool):Nat→Int→Option (Int)
  | 0=>λ_=>none
  | n+1=>Qb3 fu Aa f5 (Qat fu Aa f5 n)
def Qbx (fu:Nat) (Aa:List Item) (f5:Item→Option Bool):Option (Int) :=
  Qat fu Aa f5 fu 0
def Qaw (fu:Nat) (Aa:List Item) (f5:Item→Option Bool):Option (Bool) :=
  Qab (Qbx fu Aa f5) λAb=>some (decide (Ab≥0))
def Qlg (fu:Nat) (p1:Pair) (x2:Request):Option (Bool) :=
  bif (decide (p1.fA≥x2.fU)) then some (true) else some (decide (p1.fB≥x2.fU))
def Qnx (fu:Nat) (k4:Int→Option (Bool)) (Aa:Int)  : Option (Bool) :=
  k4 (w64 (Aa+1))
def Qla (fu:Nat)  (r1:Request) (k4:Int→Option (Bool)) (Aa:Int):Option (Bool) :=
  bif (decide (Aa<(r1.fV.length:Int))) then Qab (ix r1.fV Aa) λAb=>bif (decide (Ab.fL≥r1.fU)) then some (false) else Qab (sls r1.fV 0 Aa) λAc=>Qab (Qaw fu Ac (λAd=>Qpf fu Ad Ab)) λAh=>bif Ah then some (false) else Qnx fu k4 Aa else Qab (Qhd fu r1) λAf=>bif Af.2 then Qab (Qax fu r1.fT (λAe=>Qlg fu Ae r1)) λAg=>some (!Ag) else some (false)
def Qda (fu:Nat)  (r1:Request):Nat→Int→Option (Bool)
  | 0=>λ_=>none
  | n+1=>Qla fu r1 (Qda fu r1 n)
def Qkt (fu:Nat)  (r1:Request) (k1:Int→Option (Bool)) (Aa:Int):Option (Bool) :=
  bif (decide (Aa<(r1.fG.length:Int))) then Qab (ix r1.fG Aa) λAe=>Qab (sls r1.fG 0 Aa) λAb=>Qab (Qam fu Ab (λAd=>Qpd fu Ad Ae)) λAc=>bif Ac then some (false) else k1 (w64 (Aa+1)) else Qda fu r1 fu 0
def Qe2 (fu:Nat)  (r1:Request):Nat→Int→Option (Bool)
  | 0=>λ_=>none
  | n+1=>Qkt fu r1 (Qe2 fu r1 n)
def Qoh (fu:Nat) (r1:Request):Option (Bool) :=
  Qe2 fu r1 fu 0
def Qck (fu:Nat)  (Ab:List Pair) (v5:Pair) (k1:Int→Option (Int)) (Aa:Int):Option (Int) :=
  bif (decide (Aa<(Ab.length:Int))) then Qab (ix Ab Aa) λAc=>bif (decide (v5=Ac)) then some (Aa) else k1 (w64 (Aa+1)) else some ((-1))
def Qa5 (fu:Nat)  (Aa:List Pair) (v5:Pair):Nat→Int→Option (Int)
  | 0=>λ_=>none
  | n+1=>Qck fu Aa v5 (Qa5 fu Aa v5 n)
def Qc8 (fu:Nat) (Aa:List Pair) (v5:Pair):Option (Int) :=
  Qa5 fu Aa v5 fu 0
def Qcr (fu:Nat) (Ab:List Pair) (v5:Pair):Option (Bool) :=
  Qab (Qc8 fu Ab v5) λAa=>some (decide (Aa≥0))
def Qgy (fu:Nat) (Aa:List Pair) (a5:Int) (b6:Int):Option (Bool) :=
  Qab (Qcr fu Aa (⟨a5,b6⟩:Pair)) λx7=>some (x7)
def Qk6 (fu:Nat) (k3:Int→Option (Bool)) (Ac:List Pair) (Af:Int) (Ab:Int) (k4:Int→Option (Bool)) (Aa:Int):Option (Bool) :=
  bif (decide (Aa<Af)) then Qab (Qgy fu Ac Ab Aa) λAd=>Qab (Qgy fu Ac Aa Ab) λAe=>bif (!(Ad==Ae)) then some (false) else k4 (w64 (Aa+1)) else k3 (w64 (Ab+1))
def Qe7 (fu:Nat) (k3:Int→Option (Bool)) (Aa:List Pair) (Ab:Int) (Ac:Int):Nat→Int→Option (Bool)
  | 0=>λ_=>none
  | n+1=>Qk6 fu k3 Aa Ab Ac (Qe7 fu k3 Aa Ab Ac n)
def Qjz (fu:Nat)  (Ab:List Pair) (Ac:Int) (k3:Int→Option (Bool)) (Aa:Int):Option (Bool) :=
  bif (decide (Aa<Ac)) then Qab (Qgy fu Ab Aa Aa) λAd=>bif (!Ad) then some (false) else Qe7 fu k3 Ab Ac Aa fu 0 else some (true)
def Qe0 (fu:Nat)  (Aa:List Pair) (Ab:Int):Nat→Int→Option (Bool)
  | 0=>λ_=>none
  | n+1=>Qjz fu Aa Ab (Qe0 fu Aa Ab n)
def Qod (fu:Nat) (Ab:List Pair) (Aa:Int):Option (Bool) :=
  Qab (Qar fu Aa 1 4) λx6=>bif (!x6) then some (false) else Qe0 fu Ab Aa fu 0
def Qc2 (fu:Nat) (x1:List Int):Option (List Int):=Q1b x1
def Qq1 (fu:Nat) (x1:Item) (t2:Typ) (Af:List Int) (Ae:List Int):Option (Bool) :=
  Qab (Qc2 fu Af) λAb=>Qab (Qc2 fu Ae) λAa=>Qab (ix Ab 0) λAj=>Qab (ix Aa 0) λAh=>bif (decide (Aj≤Ah)) then Qab (ix Ab 1) λAg=>Qab (ix Aa 1) λAc=>bif (decide (Ag≤Ac)) then Qab (ix Ab 2) λAd=>Qab (ix Aa 2) λAi=>bif (decide (Ad≤Ai)) then some (decide (x1.fQ≤t2.fQ)) else some (false) else some (false) else some (false)
def Qqr (fu:Nat) (x1:Item) (t2:Typ):Option (Bool) :=
  Qq1 fu x1 t2 (([x1.fW,x1.fH,x1.fD]:List Int)) (([t2.fW,t2.fH,t2.fD]:List Int))
def Qot (fu:Nat) (x1:Item) (x2:Typ):Option (Bool) :=
  Qab (Qqr fu x1 x2) λx8=>some (!x8)
def Qo0 (fu:Nat) (t1:Typ) (x2:Pallet):Option (Bool) :=
  bif (decide (t1.fW>x2.fW)) then some (true) else bif (decide (t1.fD>x2.fD)) then some (true) else bif (decide (t1.fH>x2.fH)) then some (true) else some (decide ((w64 (t1.fF+t1.fQ))>x2.fQ))
def Qpq (fu:Nat) (r1:Request):Option (Int) :=
  Qab (Qhd fu r1) λAc=>Qab (Qm4 fu r1) λAb=>bif (!Ab) then some (2) else Qab (Qoh fu r1) λAd=>bif (!Ad) then some (3) else Qab (Qod fu r1.fT r1.fU) λAh=>bif (!Ah) then some (4) else Qab (Qaw fu r1.fV (λAa=>Qot fu Aa Ac.1)) λAe=>bif Ae then some (5) else Qab (Qam fu r1.fG (λAg=>Qo0 fu Ag r1.fJ)) λAf=>bif Af then some (6) else some (0)
def Qft (fu:Nat) (r1:Request):Option (Bool) :=
  Qab (Qpq fu r1) λAa=>some (Aa==0)
def Qcq (fu:Nat) (Ab:List Int):Option ((List Int)) :=
  Qab (Qfd 8 (([]:List Int)) Ab) λAa=>some (Aa)
def Qjo (fu:Nat) (x1:List Int):Option (List Int):=Jil x1
def Qjq (fu:Nat) (Ab:List Int):Option ((List Int)) :=
  Qab (Qcq fu Ab) λx5=>Qab (Qc2 fu x5) λAc=>Qab (Qjo fu Ac) λAa=>some (Aa)
def Qk5 (fu:Nat)  (r1:Request) (k1:List Int→Int→Option ((List Int))) (Ab:List Int) (Aa:Int):Option ((List Int)) :=
  bif (decide (Aa<(r1.fV.length:Int))) then Qab (ix r1.fV Aa) λAc=>Qab (Qfd 8 Ab (([Ac.fL]:List Int))) λAe=>k1 Ae (w64 (Aa+1)) else Qab (Qjq fu Ab) λAd=>some (Ad)
def Qge (fu:Nat)  (r1:Request):Nat→List Int→Int→Option ((List Int))
  | 0=>λ_ _=>none
  | n+1=>Qk5 fu r1 (Qge fu r1 n)
def Qoq (fu:Nat) (r1:Request):Option ((List Int)) :=
  Qab (Qft fu r1) λAa=>bif (!Aa) then some (([]:List Int)) else Qge fu r1 fu (([]:List Int)) 0
def Qqf (fu:Nat) (Aa:List Pair) (a5:Int) (b6:Int):Option (Bool) :=
  Qab (Qgy fu Aa a5 b6) λx7=>bif x7 then Qab (Qgy fu Aa b6 a5) λAb=>some (Ab) else some (false)
def Qjf (fu:Nat) (x1:Int) (x2:List Pair) (x8:Int):Option (Bool) :=
  Qab (Qqf fu x2 x8 x1) λAa=>some (!Aa)
def Qd2 (fu:Nat)  (Ab:List Int) (f5:Int→Option Bool) (k1:Int→Option (Int)) (Aa:Int):Option (Int) :=
  bif (decide (Aa<(Ab.length:Int))) then Qab (ix Ab Aa) λAc=>Qab (f5 Ac) λAd=>bif Ad then some (Aa) else k1 (w64 (Aa+1)) else some ((-1))
def Qb1 (fu:Nat)  (Aa:List Int) (f5:Int→Option Bool):Nat→Int→Option (Int)
  | 0=>λ_=>none
  | n+1=>Qd2 fu Aa f5 (Qb1 fu Aa f5 n)
def Qc4 (fu:Nat) (Aa:List Int) (f5:Int→Option Bool):Option (Int) :=
  Qb1 fu Aa f5 fu 0
def Qc5 (fu:Nat) (Aa:List Int) (f5:Int→Option Bool):Option (Bool) :=
  Qab (Qc4 fu Aa f5) λAb=>some (decide (Ab≥0))
def Qm9 (fu:Nat) (l1:List Int) (x5:List Pair) (Ac:Int):Option (Bool) :=
  Qab (Qc5 fu l1 (λAa=>Qjf fu Aa x5 Ac)) λAb=>some (!Ab)
def Qdt (fu:Nat)  (Ab:List (List Int)) (f5:(List Int)→Option Bool) (k1:Int→Option (Int)) (Aa:Int):Option (Int) :=
  bif (decide (Aa<(Ab.length:Int))) then Qab (ix Ab Aa) λAc=>Qab (f5 Ac) λAd=>bif Ad then some (Aa) else k1 (w64 (Aa+1)) else some ((-1))
def Qbn (fu:Nat)  (Aa:List (List Int)) (f5:(List Int)→Option Bool):Nat→Int→Option (Int)
  | 0=>λ_=>none
  | n+1=>Qdt fu Aa f5 (Qbn fu Aa f5 n)
def Qcs (fu:Nat) (Aa:List (List Int)) (f5:(List Int)→Option Bool):Option (Int) :=
  Qbn fu Aa f5 fu 0
def Qhs (fu:Nat) (k3:List (List Int)→Int→Option ((List (List Int)))) (Aa:Int) (Ab:List (List Int)):Option ((List (List Int))) :=
  k3 Ab (w64 (Aa+1))
def Qml (fu:Nat)  (Af:List Pair) (Ae:(List Int)) (k3:List (List Int)→Int→Option ((List (List Int)))) (Aa:List (List Int)) (Ab:Int):Option ((List (List Int))) :=
  bif (decide (Ab<(Ae.length:Int))) then Qab (ix Ae Ab) λAd=>Qab (Qar fu Ad 0 3) λAg=>bif (!Ag) then Qhs fu k3 Ab Aa else Qab (Qcs fu Aa (λAh=>Qm9 fu Ah Af Ad)) λAc=>bif (decide (Ac<0)) then Qab (Qfd 24 Aa [([Ad]:List Int)]) λAi=>Qhs fu k3 Ab Ai else Qab (ix Aa Ac) λAk=>Qab (Qfd 8 Ak (([Ad]:List Int))) λAj=>Qab (ix Aa Ac) λAl=>Qhs fu k3 Ab (Qim Aa Ac Aj) else some (Aa)
def Qen (fu:Nat)  (Aa:List Pair) (Ab:(List Int)):Nat→List (List Int)→Int→Option ((List (List Int)))
  | 0=>λ_ _=>none
  | n+1=>Qml fu Aa Ab (Qen fu Aa Ab n)
def Qpw (fu:Nat) (Aa:List Pair) (Ab:List Int):Option ((List (List Int))) :=
  Qab (Qjq fu Ab) λAc=>Qen fu Aa Ac fu (([]:List (List Int))) 0
def Qhl (fu:Nat) (r1:Request):Option ((List (List Int))) :=
  Qab (Qft fu r1) λAb=>bif (!Ab) then some (([]:List (List Int))) else Qab (Qoq fu r1) λAa=>Qab (Qpw fu r1.fT Aa) λAc=>some (Ac)
def Qs6 (fu:Nat) (x1:Int) (y2:Int):Option (Int×Int) :=
  some (IntKind.wrap .u64 ((IntKind.wrap .u64 ((IntKind.wrap .u64 ((Int.fdiv x1 (2 ^ (min 32 (IntKind.bits .u64))))*(Int.fdiv y2 (2 ^ (min 32 (IntKind.bits .u64))))))+(Int.fdiv (IntKind.wrap .u64 ((IntKind.wrap .u64 ((Int.fdiv x1 (2 ^ (min 32 (IntKind.bits .u64))))*(IntKind.wrap .u64 (((BitVec.ofInt (IntKind.bits .u64) y2 &&& BitVec.ofInt (IntKind.bits .u64) 4294967295).toNat:Nat):Int))))+(Int.fdiv (IntKind.wrap .u64 ((IntKind.wrap .u64 (((BitVec.ofInt (IntKind.bits .u64) x1 &&& BitVec.ofInt (IntKind.bits .u64) 4294967295).toNat:Nat):Int))*(IntKind.wrap .u64 (((BitVec.ofInt (IntKind.bits .u64) y2 &&& BitVec.ofInt (IntKind.bits .u64) 4294967295).toNat:Nat):Int)))) (2 ^ (min 32 (IntKind.bits .u64)))))) (2 ^ (min 32 (IntKind.bits .u64))))))+(Int.fdiv (IntKind.wrap .u64 ((IntKind.wrap .u64 (((BitVec.ofInt (IntKind.bits .u64) (IntKind.wrap .u64 ((IntKind.wrap .u64 ((Int.fdiv x1 (2 ^ (min 32 (IntKind.bits .u64))))*(IntKind.wrap .u64 (((BitVec.ofInt (IntKind.bits .u64) y2 &&& BitVec.ofInt (IntKind.bits .u64) 4294967295).toNat:Nat):Int))))+(Int.fdiv (IntKind.wrap .u64 ((IntKind.wrap .u64 (((BitVec.ofInt (IntKind.bits .u64) x1 &&& BitVec.ofInt (IntKind.bits .u64) 4294967295).toNat:Nat):Int))*(IntKind.wrap .u64 (((BitVec.ofInt (IntKind.bits .u64) y2 &&& BitVec.ofInt (IntKind.bits .u64) 4294967295).toNat:Nat):Int)))) (2 ^ (min 32 (IntKind.bits .u64)))))) &&& BitVec.ofInt (IntKind.bits .u64) 4294967295).toNat:Nat):Int))+(IntKind.wrap .u64 ((IntKind.wrap .u64 (((BitVec.ofInt (IntKind.bits .u64) x1 &&& BitVec.ofInt (IntKind.bits .u64) 4294967295).toNat:Nat):Int))*(Int.fdiv y2 (2 ^ (min 32 (IntKind.bits .u64)))))))) (2 ^ (min 32 (IntKind.bits .u64))))),IntKind.wrap .u64 (x1*y2))
def Qti (fu:Nat) (x1:Int) (y2:Int):Option (Int×Int) :=
  Qab (Qs6 fu x1 y2) λx3=>some (x3.1,x3.2)
def Qmq (fu:Nat)   (k3:List Int→Int→Option ((List Int))) (Aa:List Int) (Ab:Int):Option ((List Int)) :=
  bif (decide (Ab<(Aa.length:Int))) then Qab (sls Aa Ab (Aa.length:Int)) λAd=>Qab (sls Aa 0 Ab) λAc=>k3 (cpd Aa Ab Ac) (w64 (Ab+(cpn Aa Ab Ac))) else some (Aa)
def Qf3 (fu:Nat)   : Nat→List Int→Int→Option ((List Int))
  | 0=>λ_ _=>none
  | n+1=>Qmq fu  (Qf3 fu  n)
def Qbj (fu:Nat) (x1:List Int) (x8:Int×Int)  : Option ((List Int)) :=
  Qab (mk 8 (0:Int) (w64 x8.2)) λAa=>Qf3 fu fu (cpd Aa 0 x1) (cpn Aa 0 x1)
def Qf2 (fu:Nat) (x1:List Int) (Aa:Int)  : Option ((List Int)) :=
  Qab (Qti fu (IntKind.wrap .u64 (x1.length:Int)) (IntKind.wrap .u64 Aa)) λx8=>bif (decide (x8.1>0)) then none else bif (decide (x8.2>9223372036854775807)) then none else Qbj fu x1 x8
def Qfm (fu:Nat) (x1:List Int) (Aa:Int):Option ((List Int)) :=
  bif (decide (Aa<0)) then none else Qf2 fu x1 Aa
def Qnm (fu:Nat)  (r1:Request) (k1:List Int→Int→Option ((List Int))) (Ab:List Int) (Aa:Int):Option ((List Int)) :=
  bif (decide (Aa<(r1.fV.length:Int))) then Qab (ix r1.fV Aa) λAe=>Qab (Qfm fu (([Aa]:List Int)) Ae.fM) λAc=>Qab (Qfd 8 Ab Ac) λAd=>k1 Ad (w64 (Aa+1)) else some (Ab)
def Qhk (fu:Nat)  (r1:Request):Nat→List Int→Int→Option ((List Int))
  | 0=>λ_ _=>none
  | n+1=>Qnm fu r1 (Qhk fu r1 n)
def Qm3 (fu:Nat) (r1:Request):Option ((List Int)) :=
  Qab (Qft fu r1) λAa=>bif (!Aa) then some (([]:List Int)) else Qhk fu r1 fu (([]:List Int)) 0
def Qfh (fu:Nat)  (Ab:List Int) (v5:Int) (k1:Int→Option (Int)) (Aa:Int):Option (Int) :=
  bif (decide (Aa<(Ab.length:Int))) then Qab (ix Ab Aa) λAc=>bif (v5==Ac) then some (Aa) else k1 (w64 (Aa+1)) else some ((-1))
def Qcn (fu:Nat)  (Aa:List Int) (v5:Int):Nat→Int→Option (Int)
  | 0=>λ_=>none
  | n+1=>Qfh fu Aa v5 (Qcn fu Aa v5 n)
def Qhm (fu:Nat) (Aa:List Int) (v5:Int):Option (Int) :=
  Qcn fu Aa v5 fu 0
def Qej (fu:Nat) (Aa:List Int) (v5:Int):Option (Bool) :=
  Qab (Qhm fu Aa v5) λx6=>some (decide (x6≥0))
def Qja (fu:Nat) (k3:List Int→Int→Option ((List Int))) (Aa:Int) (Ab:List Int):Option ((List Int)) :=
  k3 Ab (w64 (Aa+1))
def Qj5 (fu:Nat)  (r1:Request) (Ae:Int) (Aj:(List (List Int))) (Ac:(List Int)) (k3:List Int→Int→Option ((List Int))) (Ab:List Int) (Aa:Int):Option ((List Int)) :=
  bif (decide (Aa<(Ac.length:Int))) then Qab (ix Ac Aa) λAg=>Qab (ix Aj Ae) λAh=>Qab (ix r1.fV Ag) λAf=>Qab (Qej fu Ah Af.fL) λAi=>bif Ai then Qab (Qfd 8 Ab (([Aa]:List Int))) λAd=>Qja fu k3 Aa Ad else Qja fu k3 Aa Ab else some (Ab)
def Qe3 (fu:Nat)  (r1:Request) (Ab:Int) (Aa:(List (List Int))) (Ac:(List Int)):Nat→List Int→Int→Option ((List Int))
  | 0=>λ_ _=>none
  | n+1=>Qj5 fu r1 Ab Aa Ac (Qe3 fu r1 Ab Aa Ac n)
def Qou (fu:Nat) (r1:Request) (Aa:Int):Option ((List Int)) :=
  Qab (Qhl fu r1) λAb=>Qab (Qar fu Aa 0 (w64 ((Ab.length:Int) - 1))) λAd=>bif (!Ad) then some (([]:List Int)) else Qab (Qm3 fu r1) λAc=>Qe3 fu r1 Aa Ab Ac fu (([]:List Int)) 0
def Qo6 (fu:Nat) (u1:Int) (x2:Int):Option (Bool) :=
  Qab (Qar fu u1 0 (w64 (x2 - 1))) λx5=>some (!x5)
def Qc3 (fu:Nat) (k3:List Int→Int→Int→Option ((List Int))) (Aa:Int) (Ac:List Int) (Ab:Int):Option ((List Int)) :=
  k3 Ac Ab (w64 (Aa+1))
def Qdu (fu:Nat)  (f5:Int→Option Bool) (k3:List Int→Int→Int→Option ((List Int))) (Aa:List Int) (Ab:Int) (Ac:Int):Option ((List Int)) :=
  bif (decide (Ac<(Aa.length:Int))) then Qab (ix Aa Ac) λAd=>Qab (f5 Ad) λAf=>bif (!Af) then Qab (ix Aa Ab) λAg=>Qc3 fu k3 Ac (Qim Aa Ab Ad) (w64 (Ab+1)) else Qc3 fu k3 Ac Aa Ab else Qab (sls Aa Ab (Aa.length:Int)) λAh=>Qab (sls (Q2z Aa Ab) 0 Ab) λAe=>some (Ae)
def Qba (fu:Nat)  (f5:Int→Option Bool):Nat→List Int→Int→Int→Option ((List Int))
  | 0=>λ_ _ _=>none
  | n+1=>Qdu fu f5 (Qba fu f5 n)
def Qdx (fu:Nat) (Aa:List Int) (f5:Int→Option Bool):Option ((List Int)) :=
  Qab (Qc4 fu Aa f5) λAb=>bif (Ab==((-1))) then some (Aa) else Qba fu f5 fu Aa Ab (w64 (Ab+1))
def Qie (fu:Nat) (r1:Request) (Ad:List Int):Option ((List Int)) :=
  Qab (Qm3 fu r1) λAa=>Qab (Qcq fu Ad) λAc=>Qab (Qdx fu Ac (λAe=>Qo6 fu Ae (Aa.length:Int))) λAb=>some (Ab)
def Qi6 (fu:Nat) (k3:List Item→Int→Option ((List Item))) (Ab:Int) (Aa:List Item):Option ((List Item)) :=
  k3 Aa (w64 (Ab+1))
def Qlc (fu:Nat)  (r1:Request) (Ad:List Int) (Ac:(List Int)) (k3:List Item→Int→Option ((List Item))) (Ab:List Item) (Aa:Int):Option ((List Item)) :=
  bif (decide (Aa<(Ad.length:Int))) then Qab (ix Ad Aa) λAe=>Qab (Qar fu Ae 0 (w64 ((Ac.length:Int) - 1))) λAg=>bif Ag then Qab (ix Ac Ae) λAf=>Qab (ix r1.fV Af) λAh=>Qab (Qfd 56 Ab (([Ah]:List Item))) λAi=>Qi6 fu k3 Aa Ai else Qi6 fu k3 Aa Ab else some (Ab)
def Qex (fu:Nat)  (r1:Request) (Aa:List Int) (Ab:(List Int)):Nat→List Item→Int→Option ((List Item))
  | 0=>λ_ _=>none
  | n+1=>Qlc fu r1 Aa Ab (Qex fu r1 Aa Ab n)
def Qig (fu:Nat) (r1:Request) (Aa:List Int):Option ((List Item)) :=
  Qab (Qm3 fu r1) λAb=>Qex fu r1 Aa Ab fu (([]:List Item)) 0
def Qpj (fu:Nat) (Aa:Int) (h2:Int) (d3:Int)  : Option (Int) :=
  some (w64 ((w64 (Aa*h2))*d3))
def Qnp (fu:Nat) (Aa:Int) (h2:Int) (d3:Int):Option (Int) :=
  Qab (Qar fu Aa 0 2000) λAb=>bif (!Ab) then some (0) else Qab (Qar fu h2 0 2000) λAc=>bif (!Ac) then some (0) else Qab (Qar fu d3 0 2000) λAd=>bif (!Ad) then some (0) else Qpj fu Aa h2 d3
def Qiy (fu:Nat)  (Ac:(List Item)) (k1:Int→Int→Option (Int)) (Ad:Int) (Ab:Int):Option (Int) :=
  bif (decide (Ab<(Ac.length:Int))) then Qab (ix Ac Ab) λAa=>Qab (Qnp fu Aa.fW Aa.fH Aa.fD) λAe=>k1 (w64 (Ad+Ae)) (w64 (Ab+1)) else some (Ad)
def Qfp (fu:Nat)  (Aa:(List Item)):Nat→Int→Int→Option (Int)
  | 0=>λ_ _=>none
  | n+1=>Qiy fu Aa (Qfp fu Aa n)
def Qi5 (fu:Nat) (r1:Request) (Aa:List Int):Option (Int) :=
  Qab (Qig fu r1 Aa) λAb=>Qfp fu Ab fu 0 0
def Qmj (fu:Nat)  (Ab:(List Item)) (k1:Int→Int→Option (Int)) (Ac:Int) (Aa:Int):Option (Int) :=
  bif (decide (Aa<(Ab.length:Int))) then Qab (ix Ab Aa) λAd=>k1 (w64 (Ac+Ad.fQ)) (w64 (Aa+1)) else some (Ac)
def Qgt (fu:Nat)  (Aa:(List Item)):Nat→Int→Int→Option (Int)
  | 0=>λ_ _=>none
  | n+1=>Qmj fu Aa (Qgt fu Aa n)
def Qn5 (fu:Nat) (r1:Request) (Aa:List Int):Option (Int) :=
  Qab (Qig fu r1 Aa) λAb=>Qgt fu Ab fu 0 0
def Qnz (fu:Nat) (r1:Request) (Aa:List Int) (t9:Typ):Option (Bool) :=
  Qab (Qi5 fu r1 Aa) λAb=>Qab (Qnp fu t9.fW t9.fH t9.fD) λAd=>bif (decide (Ab≤Ad)) then Qab (Qn5 fu r1 Aa) λAc=>some (decide (Ac≤t9.fQ)) else some (false)
def Qqu (fu:Nat) (r1:Request) (Af:List Int) (u9:Int):Option (Bool) :=
  Qab (Qhd fu r1) λAc=>Qab (Qft fu r1) λAa=>bif Aa then Qab (Qcq fu Af) λAe=>Qab (Qfd 8 Ae (([u9]:List Int))) λAd=>Qab (Qnz fu r1 Ad Ac.1) λAb=>some (Ab) else some (false)
def Qg7 (fu:Nat) (k3:List (List Int)→Int→Option ((List (List Int)))) (Aa:Int) (Ab:List (List Int)):Option ((List (List Int))) :=
  k3 Ab (w64 (Aa+1))
def Qkb (fu:Nat)  (r1:Request) (Ad:(List Int)) (k3:List (List Int)→Int→Option ((List (List Int)))) (Aa:List (List Int)) (Ab:Int):Option ((List (List Int))) :=
  bif (decide (Ab<(Ad.length:Int))) then Qab (ix Ad Ab) λAc=>bif (decide ((w64 ((Aa.length:Int) - 1))≥0)) then Qab (ix Aa (w64 ((Aa.length:Int) - 1))) λAe=>Qab (Qqu fu r1 Ae Ac) λAf=>bif Af then Qab (ix Aa (w64 ((Aa.length:Int) - 1))) λAk=>Qab (Qfd 8 Ae (([Ac]:List Int))) λAh=>Qab (ix Aa (w64 ((Aa.length:Int) - 1))) λAj=>Qg7 fu k3 Ab (Qim Aa (w64 ((Aa.length:Int) - 1)) Ah) else Qab (Qfd 24 Aa [([Ac]:List Int)]) λAg=>Qg7 fu k3 Ab Ag else Qab (Qfd 24 Aa [([Ac]:List Int)]) λAi=>Qg7 fu k3 Ab Ai else some (Aa)
def Qd3 (fu:Nat)  (r1:Request) (Aa:(List Int)):Nat→List (List Int)→Int→Option ((List (List Int)))
  | 0=>λ_ _=>none
  | n+1=>Qkb fu r1 Aa (Qd3 fu r1 Aa n)
def Qo5 (fu:Nat) (r1:Request) (Ab:List Int):Option ((List (List Int))) :=
  Qab (Qie fu r1 Ab) λAa=>Qd3 fu r1 Aa fu (([]:List (List Int))) 0
def Ql3 (fu:Nat)  (n1:Int) (k1:List Int→Int→Option ((List Int))) (Ab:List Int) (Aa:Int):Option ((List Int)) :=
  bif (decide (Aa<n1)) then Qab (Qfd 8 Ab (([Aa]:List Int))) λAc=>k1 Ac (w64 (Aa+1)) else some (Ab)
def Qgu (fu:Nat)  (n1:Int):Nat→List Int→Int→Option ((List Int))
  | 0=>λ_ _=>none
  | n+1=>Ql3 fu n1 (Qgu fu n1 n)
def Qqj (fu:Nat) (n1:Int):Option ((List Int)) :=
  Qgu fu n1 fu (([]:List Int)) 0
def Qoy (fu:Nat) (a1:Int) (b2:Int):Option (Int) :=
  bif (decide (a1<b2)) then some ((-1)) else bif (decide (a1>b2)) then some (1) else some (0)
def Qe8 (fu:Nat) (i1:Int) (j2:Int) (x3:List Int):Option (Int) :=
  Qab (ix x3 j2) λAb=>Qab (ix x3 i1) λAa=>Qab (Qoy fu Ab Aa) λAc=>some (Ac)
def Qcy (fu:Nat) (Ad:List Int→Int→Option ((List Int))) (Ab:List Int) (Aa:Int)  : Option ((List Int)) :=
  Qab (ix Ab (w64 (Aa - 1))) λAc=>Qab (ix Ab Aa) λAe=>Qab (ix Ab Aa) λAf=>Qab (ix (Qim Ab Aa Ac) (w64 (Aa - 1))) λAg=>Ad (Qim (Qim Ab Aa Ac) (w64 (Aa - 1)) Ae) (w64 (Aa - 1))
def Qco (fu:Nat) (k9:List Int→Int→Option ((List Int))) (a5:Int) (f7:Int→Int→Option Int) (Ac:Int) (Ad:List Int→Int→Option ((List Int))) (Aa:List Int) (Ab:Int):Option ((List Int)) :=
  bif (decide (Ab>a5)) then Qab (ix Aa Ab) λAe=>Qab (ix Aa (w64 (Ab - 1))) λAf=>Qab (f7 Ae Af) λAg=>bif (decide (Ag<0)) then Qcy fu Ad Aa Ab else k9 Aa (w64 (Ac+1)) else k9 Aa (w64 (Ac+1))
def Qaz (fu:Nat) (k9:List Int→Int→Option ((List Int))) (a5:Int) (f7:Int→Int→Option Int) (Aa:Int):Nat→List Int→Int→Option ((List Int))
  | 0=>λ_ _=>none
  | n+1=>Qco fu k9 a5 f7 Aa (Qaz fu k9 a5 f7 Aa n)
def Qbu (fu:Nat)  (a5:Int) (b6:Int) (f7:Int→Int→Option Int) (k9:List Int→Int→Option ((List Int))) (Ab:List Int) (Aa:Int):Option ((List Int)) :=
  bif (decide (Aa<b6)) then Qaz fu k9 a5 f7 Aa fu Ab Aa else some (Ab)
def Qag (fu:Nat)  (a5:Int) (b6:Int) (f7:Int→Int→Option Int):Nat→List Int→Int→Option ((List Int))
  | 0=>λ_ _=>none
  | n+1=>Qbu fu a5 b6 f7 (Qag fu a5 b6 f7 n)
def Qbs (fu:Nat) (Aa:List Int) (a5:Int) (b6:Int) (f7:Int→Int→Option Int):Option ((List Int)) :=
  Qag fu a5 b6 f7 fu Aa (w64 (a5+1))
def Qg0 (fu:Nat) (x0:List Int) (x1:Int) (x2:Int) (x3:Int) (x4:Int→Int→Option Int):Option ((List Int)):=none
def Qem (fu:Nat) (k6:List Int→Int→Option ((List Int))) (Ab:Int) (Aa:List Int):Option ((List Int)) :=
  k6 Aa (w64 (Ab*2))
def Qi8 (fu:Nat) (k6:List Int→Int→Option ((List Int))) (n5:Int) (f6:Int→Int→Option Int) (Aa:Int) (k7:List Int→Int→Int→Option ((List Int))) (Ad:List Int) (Ab:Int) (Ac:Int):Option ((List Int)) :=
  bif (decide (Ac≤n5)) then Qab (Qg0 fu Ad Ab (w64 (Ab+Aa)) Ac f6) λAf=>k7 Af Ac (w64 (Ac+(w64 (2*Aa)))) else bif (decide ((w64 (Ab+Aa))<n5)) then Qab (Qg0 fu Ad Ab (w64 (Ab+Aa)) n5 f6) λAe=>Qem fu k6 Aa Ae else Qem fu k6 Aa Ad
def Qep (fu:Nat) (k6:List Int→Int→Option ((List Int))) (n5:Int) (f6:Int→Int→Option Int) (Aa:Int):Nat→List Int→Int→Int→Option ((List Int))
  | 0=>λ_ _ _=>none
  | n+1=>Qi8 fu k6 n5 f6 Aa (Qep fu k6 n5 f6 Aa n)
def Qgf (fu:Nat)  (n5:Int) (f6:Int→Int→Option Int) (k6:List Int→Int→Option ((List Int))) (Ab:List Int) (Aa:Int):Option ((List Int)) :=
  bif (decide (Aa<n5)) then Qep fu k6 n5 f6 Aa fu Ab 0 (w64 (2*Aa)) else some (Ab)
def Qb0 (fu:Nat)  (n5:Int) (f6:Int→Int→Option Int):Nat→List Int→Int→Option ((List Int))
  | 0=>λ_ _=>none
  | n+1=>Qgf fu n5 f6 (Qb0 fu n5 f6 n)
def Qf8 (fu:Nat)  (n5:Int) (f6:Int→Int→Option Int) (k1:List Int→Int→Int→Option ((List Int))) (Ac:List Int) (Ab:Int) (Aa:Int):Option ((List Int)) :=
  bif (decide (Aa≤n5)) then Qab (Qbs fu Ac Ab Aa f6) λAe=>k1 Ae Aa (w64 (Aa+20)) else Qab (Qbs fu Ac Ab n5 f6) λAd=>Qb0 fu n5 f6 fu Ad 20
def Qc6 (fu:Nat)  (n5:Int) (f6:Int→Int→Option Int):Nat→List Int→Int→Int→Option ((List Int))
  | 0=>λ_ _ _=>none
  | n+1=>Qf8 fu n5 f6 (Qc6 fu n5 f6 n)
def Qf1 (fu:Nat) (Aa:List Int) (n5:Int) (f6:Int→Int→Option Int):Option ((List Int)) :=
  Qc6 fu n5 f6 fu Aa 0 20
def Qeb (fu:Nat) (x1:List Int) (f5:Int→Int→Option Int):Option ((List Int)) :=
  Qab (Qf1 fu x1 (x1.length:Int) f5) λAa=>some (Aa)
def Qgo (fu:Nat) (Aa:List Int):Option ((List Int)) :=
  Qab (Qqj fu (Aa.length:Int)) λx8=>Qab (Qeb fu x8 (λAc Ad=>Qe8 fu Ac Ad Aa)) λAb=>some (Ab)
def Qjl (fu:Nat) (l1:List Int) (x5:Request) (Ab:Int):Option (Bool) :=
  Qab (Qqu fu x5 l1 Ab) λAa=>some (Aa)
def Qhv (fu:Nat) (k4:List (List Int)→Int→Option ((List (List Int)))) (Ab:Int) (Aa:List (List Int)):Option ((List (List Int))) :=
  k4 Aa (w64 (Ab+1))
def Qip (fu:Nat)  (r1:Request) (Af:(List Int)) (Ae:(List Int)) (k4:List (List Int)→Int→Option ((List (List Int)))) (Aa:List (List Int)) (Ab:Int):Option ((List (List Int))) :=
  bif (decide (Ab<(Ae.length:Int))) then Qab (ix Ae Ab) λAg=>Qab (ix Af Ag) λAd=>Qab (Qcs fu Aa (λAi=>Qjl fu Ai r1 Ad)) λAc=>bif (decide (Ac<0)) then Qab (Qfd 24 Aa [([Ad]:List Int)]) λAh=>Qhv fu k4 Ab Ah else Qab (ix Aa Ac) λAj=>Qab (Qfd 8 Aj (([Ad]:List Int))) λAk=>Qab (ix Aa Ac) λAl=>Qhv fu k4 Ab (Qim Aa Ac Ak) else some (Aa)
def Qcl (fu:Nat)  (r1:Request) (Ab:(List Int)) (Aa:(List Int)):Nat→List (List Int)→Int→Option ((List (List Int)))
  | 0=>λ_ _=>none
  | n+1=>Qip fu r1 Ab Aa (Qcl fu r1 Ab Aa n)
def Qir (fu:Nat)  (r1:Request) (Aa:(List Int)) (k1:List Int→Int→Option ((List (List Int)))) (Ac:List Int) (Ab:Int):Option ((List (List Int))) :=
  bif (decide (Ab<(Aa.length:Int))) then Qab (ix Aa Ab) λAf=>Qab (Qi5 fu r1 (([Af]:List Int))) λAe=>Qab (Qfd 8 Ac (([Ae]:List Int))) λAg=>k1 Ag (w64 (Ab+1)) else Qab (Qgo fu Ac) λAd=>Qcl fu r1 Aa Ad fu (([]:List (List Int))) 0
def Qff (fu:Nat)  (r1:Request) (Aa:(List Int)):Nat→List Int→Int→Option ((List (List Int)))
  | 0=>λ_ _=>none
  | n+1=>Qir fu r1 Aa (Qff fu r1 Aa n)
def Qm8 (fu:Nat) (r1:Request) (Aa:List Int):Option ((List (List Int))) :=
  Qab (Qie fu r1 Aa) λAb=>Qff fu r1 Ab fu (([]:List Int)) 0
def Qoj (fu:Nat) (r1:Request) (Aa:List Int):Option ((List (List Int))) :=
  bif (r1.fO==1) then Qab (Qo5 fu r1 Aa) λAb=>some (Ab) else Qab (Qm8 fu r1 Aa) λAc=>some (Ac)
def Qqw (fu:Nat) (x1:Item) (x2:Typ):Option (Bool) :=
  Qab (Qqr fu x1 x2) λx8=>some (!x8)
def Qp4 (fu:Nat) (r1:Request) (Aa:List Int) (t9:Typ)  : Option (Bool) :=
  Qab (Qig fu r1 Aa) λAd=>Qab (Qaw fu Ad (λAc=>Qqw fu Ac t9)) λAb=>bif (!Ab) then Qab (Qnz fu r1 Aa t9) λAe=>some (Ae) else some (false)
def Qq7 (fu:Nat) (r1:Request) (Aa:List Int) (t9:Typ):Option (Bool) :=
  Qab (Qft fu r1) λAc=>bif (!Ac) then some (false) else Qab (Qie fu r1 Aa) λAb=>bif ((Ab.length:Int) != (Aa.length:Int)) then some (false) else Qp4 fu r1 Aa t9
def Qdq (fu:Nat) (k3:Typ→Bool→Int→Option (Typ×Bool)) (Ab:Int) (Ac:Typ) (Aa:Bool):Option (Typ×Bool) :=
  k3 Ac Aa (w64 (Ab+1))
def Qi0 (fu:Nat)  (r1:Request) (Af:List Int) (k3:Typ→Bool→Int→Option (Typ×Bool)) (Ac:Typ) (Ad:Bool) (Aa:Int):Option (Typ×Bool) :=
  bif (decide (Aa<(r1.fG.length:Int))) then Qab (ix r1.fG Aa) λAb=>Qab (Qq7 fu r1 Af Ab) λAe=>bif (!Ae) then Qdq fu k3 Aa Ac Ad else bif (!Ad) then Qdq fu k3 Aa Ab true else bif (decide (Ab.fE<Ac.fE)) then Qdq fu k3 Aa Ab true else bif (Ab.fE==Ac.fE) then bif (decide (Ab.f0<Ac.f0)) then Qdq fu k3 Aa Ab true else Qdq fu k3 Aa Ac Ad else Qdq fu k3 Aa Ac Ad else some (Ac,Ad)
def Qef (fu:Nat)  (r1:Request) (Aa:List Int):Nat→Typ→Bool→Int→Option (Typ×Bool)
  | 0=>λ_ _ _=>none
  | n+1=>Qi0 fu r1 Aa (Qef fu r1 Aa n)
def Qmu (fu:Nat) (r1:Request) (Aa:List Int):Option (Typ×Bool) :=
  Qef fu r1 Aa fu (⟨0,0,0,0,0,0,0⟩:Typ) false 0
def Qh9 (fu:Nat) (k3:List Carton→Int→Option ((List Carton))) (r1:Request) (Ac:Int) (Ad:(List (List Int))) (k4:List Carton→Int→Option ((List Carton))) (Ae:List Carton) (Aa:Int):Option ((List Carton)) :=
  bif (decide (Aa<(Ad.length:Int))) then Qab (ix Ad Aa) λAb=>Qab (Qmu fu r1 Ab) λAh=>Qab (Qc2 fu Ab) λAg=>Qab (Qfd 40 Ae [(⟨Ah.1.f0,Ac,Ag⟩:Carton)]) λAf=>k4 Af (w64 (Aa+1)) else k3 Ae (w64 (Ac+1))
def Qet (fu:Nat) (k3:List Carton→Int→Option ((List Carton))) (r1:Request) (Ab:Int) (Aa:(List (List Int))):Nat→List Carton→Int→Option ((List Carton))
  | 0=>λ_ _=>none
  | n+1=>Qh9 fu k3 r1 Ab Aa (Qet fu k3 r1 Ab Aa n)
def Qhw (fu:Nat)  (r1:Request) (Ad:(List (List Int))) (k3:List Carton→Int→Option ((List Carton))) (Ab:List Carton) (Aa:Int):Option ((List Carton)) :=
  bif (decide (Aa<(Ad.length:Int))) then Qab (Qou fu r1 Aa) λAc=>Qab (Qoj fu r1 Ac) λAe=>Qet fu k3 r1 Aa Ae fu Ab 0 else some (Ab)
def Qcm (fu:Nat)  (r1:Request) (Aa:(List (List Int))):Nat→List Carton→Int→Option ((List Carton))
  | 0=>λ_ _=>none
  | n+1=>Qhw fu r1 Aa (Qcm fu r1 Aa n)
def Qli (fu:Nat) (r1:Request):Option ((List Carton)) :=
  Qab (Qhl fu r1) λAa=>Qcm fu r1 Aa fu (([]:List Carton)) 0
def Qqg (fu:Nat) (r1:Request) (x5:Carton) (Aa:Typ×Bool)  : Option (Int) :=
  Qab (Qn5 fu r1 x5.qQ) λAb=>some (w64 (Aa.1.fF+Ab))
def Qq4 (fu:Nat) (r1:Request) (x5:Carton):Option (Int) :=
  Qab (Qhj fu r1 x5.qJ) λAa=>bif (!Aa.2) then some (0) else Qab (Qft fu r1) λAb=>bif (!Ab) then some (0) else Qqg fu r1 x5 Aa
def Qqk (fu:Nat) (r1:Request) (x5:Carton) (Aa:Typ×Bool)  : Option (Box) :=
  Qab (Qq4 fu r1 x5) λAb=>some (⟨Aa.1.fW,Aa.1.fD,Aa.1.fH,Ab⟩:Box)
def Qq3 (fu:Nat) (r1:Request) (x5:Carton):Option (Box) :=
  Qab (Qhj fu r1 x5.qJ) λAa=>bif (!Aa.2) then some (⟨0,0,0,0⟩:Box) else Qab (Qft fu r1) λAb=>bif (!Ab) then some (⟨0,0,0,0⟩:Box) else Qqk fu r1 x5 Aa
def Qlm (fu:Nat) (b1:Box) (x2:Pallet):Option (Bool) :=
  Qab (Qar fu b1.fW 1 x2.fW) λx8=>bif (!x8) then some (true) else Qab (Qar fu b1.fD 1 x2.fD) λAb=>bif (!Ab) then some (true) else Qab (Qar fu b1.fH 1 x2.fH) λAc=>bif (!Ac) then some (true) else Qab (Qar fu b1.fQ 1 x2.fQ) λAa=>some (!Aa)
def Qcc (fu:Nat)  (Ab:List Box) (f5:Box→Option Bool) (k1:Int→Option (Int)) (Aa:Int):Option (Int) :=
  bif (decide (Aa<(Ab.length:Int))) then Qab (ix Ab Aa) λAc=>Qab (f5 Ac) λAd=>bif Ad then some (Aa) else k1 (w64 (Aa+1)) else some ((-1))
def Qaq (fu:Nat)  (Aa:List Box) (f5:Box→Option Bool):Nat→Int→Option (Int)
  | 0=>λ_=>none
  | n+1=>Qcc fu Aa f5 (Qaq fu Aa f5 n)
def Qcx (fu:Nat) (Aa:List Box) (f5:Box→Option Bool):Option (Int) :=
  Qaq fu Aa f5 fu 0
def Qbp (fu:Nat) (Aa:List Box) (f5:Box→Option Bool):Option (Bool) :=
  Qab (Qcx fu Aa f5) λAb=>some (decide (Ab≥0))
def Qlx (fu:Nat) (p1:Pallet) (Ac:List Box):Option (Bool) :=
  Qab (Qek fu p1) λAa=>bif Aa then Qab (Qbp fu Ac (λAb=>Qlm fu Ab p1)) λAd=>some (!Ad) else some (false)
def Qny (fu:Nat) (k8:List Shelf→Int→Option ((List Shelf))) (Ab:Int) (Aa:List Shelf):Option ((List Shelf)) :=
  k8 Aa (w64 (Ab+1))
def Qdc (fu:Nat) (k8:List Shelf→Int→Option ((List Shelf))) (Ak:Int) (Ah:Int) (Ac:Box) (Ag:List Shelf) (Af:Int):Option ((List Shelf)) :=
  Qab (ix Ag Af) λAb=>Qab (Qfd 8 Ab.f9 (([Ah]:List Int))) λAd=>Qab (some ((⟨(⟨Ad,Ab.fW,Ab.fD,Ab.fH,Ab.fQ⟩:Shelf).f9,w64 (((⟨Ad,Ab.fW,Ab.fD,Ab.fH,Ab.fQ⟩:Shelf).fW)+Ac.fW),(⟨Ad,Ab.fW,Ab.fD,Ab.fH,Ab.fQ⟩:Shelf).fD,(⟨Ad,Ab.fW,Ab.fD,Ab.fH,Ab.fQ⟩:Shelf).fH,(⟨Ad,Ab.fW,Ab.fD,Ab.fH,Ab.fQ⟩:Shelf).fQ⟩:Shelf))) λAa=>Qab (some (Qim (Qim Ag Af (⟨Ad,Ab.fW,Ab.fD,Ab.fH,Ab.fQ⟩:Shelf)) Af Aa)) λAj=>Qab (some ((⟨(⟨Aa.f9,Aa.fW,if Ac.fD>Aa.fD then Ac.fD else Aa.fD,Aa.fH,Aa.fQ⟩:Shelf).f9,(⟨Aa.f9,Aa.fW,if Ac.fD>Aa.fD then Ac.fD else Aa.fD,Aa.fH,Aa.fQ⟩:Shelf).fW,(⟨Aa.f9,Aa.fW,if Ac.fD>Aa.fD then Ac.fD else Aa.fD,Aa.fH,Aa.fQ⟩:Shelf).fD,if Ac.fH>((⟨Aa.f9,Aa.fW,if Ac.fD>Aa.fD then Ac.fD else Aa.fD,Aa.fH,Aa.fQ⟩:Shelf).fH) then Ac.fH else (⟨Aa.f9,Aa.fW,if Ac.fD>Aa.fD then Ac.fD else Aa.fD,Aa.fH,Aa.fQ⟩:Shelf).fH,(⟨Aa.f9,Aa.fW,if Ac.fD>Aa.fD then Ac.fD else Aa.fD,Aa.fH,Aa.fQ⟩:Shelf).fQ⟩:Shelf))) λAe=>Qab (some (Qim (Qim Aj Af (⟨Aa.f9,Aa.fW,if Ac.fD>Aa.fD then Ac.fD else Aa.fD,Aa.fH,Aa.fQ⟩:Shelf)) Af Ae)) λAi=>Qny fu k8 Ak (Qim Ai Af (⟨Ae.f9,Ae.fW,Ae.fD,Ae.fH,w64 (Ae.fQ+Ac.fQ)⟩:Shelf))
def Qj9 (fu:Nat)  (p1:Pallet) (Ag:List Box) (Ae:(List Int)) (k8:List Shelf→Int→Option ((List Shelf))) (Aa:List Shelf) (Ac:Int):Option ((List Shelf)) :=
  bif (decide (Ac<(Ae.length:Int))) then Qab (ix Ae Ac) λAd=>Qab (ix Ag Ad) λAb=>bif (decide ((w64 ((Aa.length:Int) - 1))<0)) then Qab (Qfd 56 Aa [(⟨[],0,0,0,0⟩:Shelf)]) λAj=>Qdc fu k8 Ac Ad Ab Aj (w64 ((w64 ((Aa.length:Int) - 1))+1)) else Qab (ix Aa (w64 ((Aa.length:Int) - 1))) λAf=>bif (decide ((w64 (Af.fW+Ab.fW))>p1.fW)) then Qab (Qfd 56 Aa [(⟨[],0,0,0,0⟩:Shelf)]) λAh=>Qdc fu k8 Ac Ad Ab Ah (w64 ((w64 ((Aa.length:Int) - 1))+1)) else Qab (ix Aa (w64 ((Aa.length:Int) - 1))) λAk=>bif (decide ((w64 (Af.fQ+Ab.fQ))>p1.fQ)) then Qab (Qfd 56 Aa [(⟨[],0,0,0,0⟩:Shelf)]) λAi=>Qdc fu k8 Ac Ad Ab Ai (w64 ((w64 ((Aa.length:Int) - 1))+1)) else Qdc fu k8 Ac Ad Ab Aa (w64 ((Aa.length:Int) - 1)) else some (Aa)
def Qby (fu:Nat)  (p1:Pallet) (Aa:List Box) (Ab:(List Int)):Nat→List Shelf→Int→Option ((List Shelf))
  | 0=>λ_ _=>none
  | n+1=>Qj9 fu p1 Aa Ab (Qby fu p1 Aa Ab n)
def Qk4 (fu:Nat)  (p1:Pallet) (Ab:List Box) (k1:List Int→Int→Option ((List Shelf))) (Ac:List Int) (Aa:Int):Option ((List Shelf)) :=
  bif (decide (Aa<(Ab.length:Int))) then Qab (ix Ab Aa) λAd=>Qab (Qfd 8 Ac (([Ad.fD]:List Int))) λAe=>k1 Ae (w64 (Aa+1)) else Qab (Qgo fu Ac) λAf=>Qby fu p1 Ab Af fu (([]:List Shelf)) 0
def Qgc (fu:Nat)  (p1:Pallet) (Aa:List Box):Nat→List Int→Int→Option ((List Shelf))
  | 0=>λ_ _=>none
  | n+1=>Qk4 fu p1 Aa (Qgc fu p1 Aa n)
def Qol (fu:Nat) (p1:Pallet) (Aa:List Box):Option ((List Shelf)) :=
  Qab (Qlx fu p1 Aa) λAb=>bif (!Ab) then some (([]:List Shelf)) else Qgc fu p1 Aa fu (([]:List Int)) 0
def Qmi (fu:Nat) (Aa:Shelf) (x5:Pallet):Option (Bool) :=
  Qab (Qar fu Aa.fD 1 x5.fD) λAc=>bif (!Ac) then some (true) else Qab (Qar fu Aa.fH 1 x5.fH) λAd=>bif (!Ad) then some (true) else Qab (Qar fu Aa.fQ 1 x5.fQ) λAb=>some (!Ab)
def Qbv (fu:Nat)  (Ab:List Shelf) (f5:Shelf→Option Bool) (k1:Int→Option (Int)) (Aa:Int):Option (Int) :=
  bif (decide (Aa<(Ab.length:Int))) then Qab (ix Ab Aa) λAc=>Qab (f5 Ac) λAd=>bif Ad then some (Aa) else k1 (w64 (Aa+1)) else some ((-1))
def Qak (fu:Nat)  (Aa:List Shelf) (f5:Shelf→Option Bool):Nat→Int→Option (Int)
  | 0=>λ_=>none
  | n+1=>Qbv fu Aa f5 (Qak fu Aa f5 n)
def Qch (fu:Nat) (Aa:List Shelf) (f5:Shelf→Option Bool):Option (Int) :=
  Qak fu Aa f5 fu 0
def Qbe (fu:Nat) (Aa:List Shelf) (f5:Shelf→Option Bool):Option (Bool) :=
  Qab (Qch fu Aa f5) λAb=>some (decide (Ab≥0))
def Qls (fu:Nat) (p1:Pallet) (Ac:List Shelf):Option (Bool) :=
  Qab (Qek fu p1) λAa=>bif Aa then Qab (Qbe fu Ac (λAb=>Qmi fu Ab p1)) λAd=>some (!Ad) else some (false)
def Ql6 (fu:Nat) (k7:List Layer→Int→Option ((List Layer))) (Ab:Int) (Aa:List Layer):Option ((List Layer)) :=
  k7 Aa (w64 (Ab+1))
def Qcz (fu:Nat) (k7:List Layer→Int→Option ((List Layer))) (Ag:Int) (Ac:Shelf) (Af:List Layer) (Ae:Int):Option ((List Layer)) :=
  Qab (ix Af Ae) λAb=>Qab (Qfd 8 Ab.fP (([Ag]:List Int))) λAd=>Qab (some ((⟨(⟨Ad,Ab.fD,Ab.fH,Ab.fQ⟩:Layer).fP,w64 (((⟨Ad,Ab.fD,Ab.fH,Ab.fQ⟩:Layer).fD)+Ac.fD),(⟨Ad,Ab.fD,Ab.fH,Ab.fQ⟩:Layer).fH,(⟨Ad,Ab.fD,Ab.fH,Ab.fQ⟩:Layer).fQ⟩:Layer))) λAa=>Qab (some (Qim (Qim Af Ae (⟨Ad,Ab.fD,Ab.fH,Ab.fQ⟩:Layer)) Ae Aa)) λAj=>Qab (some ((⟨(⟨Aa.fP,Aa.fD,if Ac.fH>Aa.fH then Ac.fH else Aa.fH,Aa.fQ⟩:Layer).fP,(⟨Aa.fP,Aa.fD,if Ac.fH>Aa.fH then Ac.fH else Aa.fH,Aa.fQ⟩:Layer).fD,(⟨Aa.fP,Aa.fD,if Ac.fH>Aa.fH then Ac.fH else Aa.fH,Aa.fQ⟩:Layer).fH,w64 (((⟨Aa.fP,Aa.fD,if Ac.fH>Aa.fH then Ac.fH else Aa.fH,Aa.fQ⟩:Layer).fQ)+Ac.fQ)⟩:Layer))) λAh=>Qab (some (Qim (Qim Aj Ae (⟨Aa.fP,Aa.fD,if Ac.fH>Aa.fH then Ac.fH else Aa.fH,Aa.fQ⟩:Layer)) Ae Ah)) λAi=>Ql6 fu k7 Ag Ai
def Qiw (fu:Nat)  (p1:Pallet) (Ae:List Shelf) (k7:List Layer→Int→Option ((List Layer))) (Aa:List Layer) (Ac:Int):Option ((List Layer)) :=
  bif (decide (Ac<(Ae.length:Int))) then Qab (ix Ae Ac) λAb=>bif (decide ((w64 ((Aa.length:Int) - 1))<0)) then Qab (Qfd 48 Aa [(⟨[],0,0,0⟩:Layer)]) λAg=>Qcz fu k7 Ac Ab Ag (w64 ((w64 ((Aa.length:Int) - 1))+1)) else Qab (ix Aa (w64 ((Aa.length:Int) - 1))) λAd=>bif (decide ((w64 (Ad.fD+Ab.fD))>p1.fD)) then Qab (Qfd 48 Aa [(⟨[],0,0,0⟩:Layer)]) λAf=>Qcz fu k7 Ac Ab Af (w64 ((w64 ((Aa.length:Int) - 1))+1)) else Qab (ix Aa (w64 ((Aa.length:Int) - 1))) λAi=>bif (decide ((w64 (Ad.fQ+Ab.fQ))>p1.fQ)) then Qab (Qfd 48 Aa [(⟨[],0,0,0⟩:Layer)]) λAh=>Qcz fu k7 Ac Ab Ah (w64 ((w64 ((Aa.length:Int) - 1))+1)) else Qcz fu k7 Ac Ab Aa (w64 ((Aa.length:Int) - 1)) else some (Aa)
def Qbt (fu:Nat)  (p1:Pallet) (Aa:List Shelf):Nat→List Layer→Int→Option ((List Layer))
  | 0=>λ_ _=>none
  | n+1=>Qiw fu p1 Aa (Qbt fu p1 Aa n)
def Qm7 (fu:Nat) (p1:Pallet) (Aa:List Shelf):Option ((List Layer)) :=
  Qab (Qls fu p1 Aa) λAb=>bif (!Ab) then some (([]:List Layer)) else Qbt fu p1 Aa fu (([]:List Layer)) 0
def Qn4 (fu:Nat) (x1:Layer) (x5:Pallet):Option (Bool) :=
  Qab (Qar fu x1.fD 1 x5.fD) λAb=>bif (!Ab) then some (true) else Qab (Qar fu x1.fH 1 x5.fH) λAc=>bif (!Ac) then some (true) else Qab (Qar fu x1.fQ 1 x5.fQ) λAa=>some (!Aa)
def Qbw (fu:Nat)  (Ab:List Layer) (f5:Layer→Option Bool) (k1:Int→Option (Int)) (Aa:Int):Option (Int) :=
  bif (decide (Aa<(Ab.length:Int))) then Qab (ix Ab Aa) λAc=>Qab (f5 Ac) λAd=>bif Ad then some (Aa) else k1 (w64 (Aa+1)) else some ((-1))
def Qaj (fu:Nat)  (Aa:List Layer) (f5:Layer→Option Bool):Nat→Int→Option (Int)
  | 0=>λ_=>none
  | n+1=>Qbw fu Aa f5 (Qaj fu Aa f5 n)
def Qcg (fu:Nat) (Aa:List Layer) (f5:Layer→Option Bool):Option (Int) :=
  Qaj fu Aa f5 fu 0
def Qbc (fu:Nat) (Aa:List Layer) (f5:Layer→Option Bool):Option (Bool) :=
  Qab (Qcg fu Aa f5) λAb=>some (decide (Ab≥0))
def Qmv (fu:Nat) (p1:Pallet) (Ac:List Layer):Option (Bool) :=
  Qab (Qek fu p1) λAa=>bif Aa then Qab (Qbc fu Ac (λAb=>Qn4 fu Ab p1)) λAd=>some (!Ad) else some (false)
def Qnq (fu:Nat) (k7:List Load→Int→Option ((List Load))) (Ab:Int) (Aa:List Load):Option ((List Load)) :=
  k7 Aa (w64 (Ab+1))
def Qdd (fu:Nat) (k7:List Load→Int→Option ((List Load))) (Af:Int) (Ae:Layer) (Ag:List Load) (Ab:Int):Option ((List Load)) :=
  Qab (ix Ag Ab) λAa=>Qab (Qfd 8 Aa.f8 (([Af]:List Int))) λAc=>Qab (some ((⟨(⟨Ac,Aa.fH,Aa.fQ⟩:Load).f8,w64 (((⟨Ac,Aa.fH,Aa.fQ⟩:Load).fH)+Ae.fH),(⟨Ac,Aa.fH,Aa.fQ⟩:Load).fQ⟩:Load))) λAd=>Qab (some (Qim (Qim Ag Ab (⟨Ac,Aa.fH,Aa.fQ⟩:Load)) Ab Ad)) λAh=>Qnq fu k7 Af (Qim Ah Ab (⟨Ad.f8,Ad.fH,w64 (Ad.fQ+Ae.fQ)⟩:Load))
def Qjw (fu:Nat)  (p1:Pallet) (Ad:List Layer) (k7:List Load→Int→Option ((List Load))) (Aa:List Load) (Ac:Int):Option ((List Load)) :=
  bif (decide (Ac<(Ad.length:Int))) then Qab (ix Ad Ac) λAb=>bif (decide ((w64 ((Aa.length:Int) - 1))<0)) then Qab (Qfd 40 Aa [(⟨[],0,0⟩:Load)]) λAh=>Qdd fu k7 Ac Ab Ah (w64 ((w64 ((Aa.length:Int) - 1))+1)) else Qab (ix Aa (w64 ((Aa.length:Int) - 1))) λAe=>bif (decide ((w64 (Ae.fH+Ab.fH))>p1.fH)) then Qab (Qfd 40 Aa [(⟨[],0,0⟩:Load)]) λAg=>Qdd fu k7 Ac Ab Ag (w64 ((w64 ((Aa.length:Int) - 1))+1)) else Qab (ix Aa (w64 ((Aa.length:Int) - 1))) λAi=>bif (decide ((w64 (Ae.fQ+Ab.fQ))>p1.fQ)) then Qab (Qfd 40 Aa [(⟨[],0,0⟩:Load)]) λAf=>Qdd fu k7 Ac Ab Af (w64 ((w64 ((Aa.length:Int) - 1))+1)) else Qdd fu k7 Ac Ab Aa (w64 ((Aa.length:Int) - 1)) else some (Aa)
def Qb8 (fu:Nat)  (p1:Pallet) (Aa:List Layer):Nat→List Load→Int→Option ((List Load))
  | 0=>λ_ _=>none
  | n+1=>Qjw fu p1 Aa (Qb8 fu p1 Aa n)
def Qo1 (fu:Nat) (p1:Pallet) (Aa:List Layer):Option ((List Load)) :=
  Qab (Qmv fu p1 Aa) λAb=>bif (!Ab) then some (([]:List Load)) else Qb8 fu p1 Aa fu (([]:List Load)) 0
def Qk2 (fu:Nat) (Ak:List Spot→Int→Int→Option ((List Spot))) (Aj:List Box) (Aq:(List Shelf)) (Ao:Int) (Al:Int) (Ad:Int) (Ag:Int) (Ap:Int) (Af:Shelf) (Ai:List Spot→Int→Int→Option ((List Spot))) (Ab:List Spot) (Ae:Int) (Aa:Int):Option ((List Spot)) :=
  bif (decide (Aa<(Af.f9.length:Int))) then Qab (ix Af.f9 Aa) λAc=>Qab (ix Ab Ac) λAr=>Qab (ix Aj Ac) λAm=>Ai (Qim Ab Ac (⟨Ao,Ae,Ad,Al⟩:Spot)) (w64 (Ae+Am.fW)) (w64 (Aa+1)) else Qab (ix Aq Ap) λAh=>Ak Ab (w64 (Ad+Ah.fD)) (w64 (Ag+1))
def Qf5 (fu:Nat) (Ad:List Spot→Int→Int→Option ((List Spot))) (Ac:List Box) (Ai:(List Shelf)) (Af:Int) (Ae:Int) (Aa:Int) (Ab:Int) (Ah:Int) (Ag:Shelf):Nat→List Spot→Int→Int→Option ((List Spot))
  | 0=>λ_ _ _=>none
  | n+1=>Qk2 fu Ad Ac Ai Af Ae Aa Ab Ah Ag (Qf5 fu Ad Ac Ai Af Ae Aa Ab Ah Ag n)
def Qkg (fu:Nat) (Ao:List Spot→Int→Int→Option ((List Spot))) (Al:List Box) (Ab:(List Shelf)) (Ak:(List Layer)) (Ap:Int) (Ac:Int) (Aj:Int) (Ah:Int) (Af:Layer) (Am:List Spot→Int→Int→Option ((List Spot))) (Ad:List Spot) (Ai:Int) (Aa:Int):Option ((List Spot)) :=
  bif (decide (Aa<(Af.fP.length:Int))) then Qab (ix Af.fP Aa) λAe=>Qab (ix Ab Ae) λAq=>Qf5 fu Am Al Ab Ap Ac Ai Aa Ae Aq fu Ad 0 0 else Qab (ix Ak Ah) λAg=>Ao Ad (w64 (Ac+Ag.fH)) (w64 (Aj+1))
def Qdb (fu:Nat) (Af:List Spot→Int→Int→Option ((List Spot))) (Ad:List Box) (Ah:(List Shelf)) (Ac:(List Layer)) (Ag:Int) (Ae:Int) (Ab:Int) (Aa:Int) (Ai:Layer):Nat→List Spot→Int→Int→Option ((List Spot))
  | 0=>λ_ _ _=>none
  | n+1=>Qkg fu Af Ad Ah Ac Ag Ae Ab Aa Ai (Qdb fu Af Ad Ah Ac Ag Ae Ab Aa Ai n)
def Qj4 (fu:Nat) (Aj:List Spot→Int→Option ((List Spot))) (Ag:List Box) (Ak:(List Shelf)) (Ad:(List Layer)) (Af:Int) (Ae:Load) (Ai:List Spot→Int→Int→Option ((List Spot))) (Ac:List Spot) (Ah:Int) (Aa:Int):Option ((List Spot)) :=
  bif (decide (Aa<(Ae.f8.length:Int))) then Qab (ix Ae.f8 Aa) λAb=>Qab (ix Ad Ab) λAl=>Qdb fu Ai Ag Ak Ad Af Ah Aa Ab Al fu Ac 0 0 else Aj Ac (w64 (Af+1))
def Qb6 (fu:Nat) (Ae:List Spot→Int→Option ((List Spot))) (Ab:List Box) (Af:(List Shelf)) (Aa:(List Layer)) (Ad:Int) (Ac:Load):Nat→List Spot→Int→Int→Option ((List Spot))
  | 0=>λ_ _ _=>none
  | n+1=>Qj4 fu Ae Ab Af Aa Ad Ac (Qb6 fu Ae Ab Af Aa Ad Ac n)
def Qkc (fu:Nat)  (Ae:List Box) (Ah:(List Shelf)) (Ad:(List Layer)) (Ab:(List Load)) (Ag:List Spot→Int→Option ((List Spot))) (Ac:List Spot) (Aa:Int):Option ((List Spot)) :=
  bif (decide (Aa<(Ab.length:Int))) then Qab (ix Ab Aa) λAf=>Qb6 fu Ag Ae Ah Ad Aa Af fu Ac 0 0 else some (Ac)
def Qbh (fu:Nat)  (Ac:List Box) (Ab:(List Shelf)) (Aa:(List Layer)) (Ad:(List Load)):Nat→List Spot→Int→Option ((List Spot))
  | 0=>λ_ _=>none
  | n+1=>Qkc fu Ac Ab Aa Ad (Qbh fu Ac Ab Aa Ad n)
def Qlu (fu:Nat) (p1:Pallet) (Aa:List Box):Option ((List Spot)) :=
  Qab (Qlx fu p1 Aa) λAe=>bif (!Ae) then some (([]:List Spot)) else Qab (Qol fu p1 Aa) λAc=>Qab (Qm7 fu p1 Ac) λAb=>Qab (mk 32 (⟨(0:Int),(0:Int),(0:Int),(0:Int)⟩:Spot) (Aa.length:Int)) λAf=>Qab (Qo1 fu p1 Ab) λAd=>Qbh fu Aa Ac Ab Ad fu Af 0
def Qje (fu:Nat) (k3:Int→Int→Option (Int)) (Aa:Int) (Ab:Int):Option (Int) :=
  k3 Ab (w64 (Aa+1))
def Qke (fu:Nat)  (Ad:List Spot) (k3:Int→Int→Option (Int)) (Aa:Int) (Ab:Int):Option (Int) :=
  bif (decide (Ab<(Ad.length:Int))) then Qab (ix Ad Ab) λAc=>Qab (Qar fu Ac.fJ 0 999999) λAe=>bif Ae then Qje fu k3 Ab (if (w64 (Ac.fJ+1))>Aa then w64 (Ac.fJ+1) else Aa) else Qje fu k3 Ab Aa else some (Aa)
def Qe5 (fu:Nat)  (Aa:List Spot):Nat→Int→Int→Option (Int)
  | 0=>λ_ _=>none
  | n+1=>Qke fu Aa (Qe5 fu Aa n)
def Qlv (fu:Nat) (Aa:List Spot):Option (Int) :=
  Qe5 fu Aa fu 0 0
def Qlo (fu:Nat) (Ab:List Box→Int→Option (Plan×Bool)) (Aa:Int) (Ac:List Box):Option (Plan×Bool) :=
  Ab Ac (w64 (Aa+1))
def Ql9 (fu:Nat) (Af:List Spot→Int→Int→Option (Plan×Bool)) (Ae:Int) (Aj:Int) (Ac:(List Spot)) (Ah:Int) (Ai:List Spot→Int→Option (Plan×Bool)) (Ad:List Spot) (Ab:Int):Option (Plan×Bool) :=
  bif (decide (Ab<(Ac.length:Int))) then Qab (ix Ac Ab) λAa=>Qab (Qfd 32 Ad (([(⟨w64 (Aa.fJ+Ae),Aa.fX,Aa.fY,Aa.fZ⟩:Spot)]:List Spot))) λAg=>Ai Ag (w64 (Ab+1)) else Af Ad (w64 (Ae+Ah)) (w64 (Aj+1))
def Qfs (fu:Nat) (Ab:List Spot→Int→Int→Option (Plan×Bool)) (Ad:Int) (Ae:Int) (Aa:(List Spot)) (Ac:Int):Nat→List Spot→Int→Option (Plan×Bool)
  | 0=>λ_ _=>none
  | n+1=>Ql9 fu Ab Ad Ae Aa Ac (Qfs fu Ab Ad Ae Aa Ac n)
def Qmc (fu:Nat) (Ai:List Spot→Int→Int→Option (Plan×Bool)) (r1:Request) (Af:(List Carton)) (Ak:List Spot) (Al:Int) (Ag:Int) (Ac:List Box→Int→Option (Plan×Bool)) (Ab:List Box) (Aa:Int):Option (Plan×Bool) :=
  bif (decide (Aa<(Af.length:Int))) then Qab (ix Af Aa) λAe=>bif (Ae.ft==Ag) then Qab (Qq3 fu r1 Ae) λAh=>Qab (Qfd 32 Ab (([Ah]:List Box))) λAm=>Qlo fu Ac Aa Am else Qlo fu Ac Aa Ab else Qab (Qlu fu r1.fJ Ab) λAd=>Qab (Qlv fu Ad) λAj=>Qfs fu Ai Al Ag Ad Aj fu Ak 0
def Qfv (fu:Nat) (Aa:List Spot→Int→Int→Option (Plan×Bool)) (r1:Request) (Ab:(List Carton)) (Ac:List Spot) (Ad:Int) (Ae:Int):Nat→List Box→Int→Option (Plan×Bool)
  | 0=>λ_ _=>none
  | n+1=>Qmc fu Aa r1 Ab Ac Ad Ae (Qfv fu Aa r1 Ab Ac Ad Ae n)
def Ql2 (fu:Nat)  (r1:Request) (Aa:(List Carton)) (Af:(List (List Int))) (Ad:List Spot→Int→Int→Option (Plan×Bool)) (Ab:List Spot) (Ae:Int) (Ac:Int):Option (Plan×Bool) :=
  bif (decide (Ac<(Af.length:Int))) then Qfv fu Ad r1 Aa Ab Ae Ac fu (([]:List Box)) 0 else some ((⟨Aa,Ab⟩:Plan),true)
def Qca (fu:Nat)  (r1:Request) (Ab:(List Carton)) (Aa:(List (List Int))):Nat→List Spot→Int→Int→Option (Plan×Bool)
  | 0=>λ_ _ _=>none
  | n+1=>Ql2 fu r1 Ab Aa (Qca fu r1 Ab Aa n)
def Qn8 (fu:Nat) (r1:Request):Option (Plan×Bool) :=
  Qab (Qft fu r1) λAb=>bif (!Ab) then some ((⟨[],[]⟩:Plan),false) else Qab (Qli fu r1) λAc=>Qab (Qhl fu r1) λAa=>Qca fu r1 Ac Aa fu (([]:List Spot)) 0 0
def Qji (fu:Nat) (Ab:List Int→Int→Option ((List Int))) (Aa:Int) (Ac:List Int):Option ((List Int)) :=
  Ab Ac (w64 (Aa+1))
def Qjm (fu:Nat) (Aa:Bool→Int→Option ((List Int))) (Ac:Int) (Ab:Bool):Option ((List Int)) :=
  Aa Ab (w64 (Ac+1))
def Qka (fu:Nat) (Ad:List Int→Int→Option ((List Int))) (r1:Request) (Ae:List Int) (Aa:Int) (Af:Bool→Int→Option ((List Int))) (Ac:Bool) (Ab:Int):Option ((List Int)) :=
  bif (decide (Ab<(r1.fV.length:Int))) then bif Ac then Qjm fu Af Ab true else Qab (ix r1.fV Ab) λAh=>Qjm fu Af Ab (Ah.fL==Aa) else bif Ac then Qab (Qfd 8 Ae (([Aa]:List Int))) λAg=>Qji fu Ad Aa Ag else Qji fu Ad Aa Ae
def Qd5 (fu:Nat) (Ab:List Int→Int→Option ((List Int))) (r1:Request) (Ac:List Int) (Aa:Int):Nat→Bool→Int→Option ((List Int))
  | 0=>λ_ _=>none
  | n+1=>Qka fu Ab r1 Ac Aa (Qd5 fu Ab r1 Ac Aa n)
def Qko (fu:Nat)  (r1:Request) (Ac:List Int→Int→Option ((List Int))) (Ab:List Int) (Aa:Int):Option ((List Int)) :=
  bif (decide (Aa<4)) then Qd5 fu Ac r1 Ab Aa fu false 0 else some (Ab)
def Qdg (fu:Nat)  (r1:Request):Nat→List Int→Int→Option ((List Int))
  | 0=>λ_ _=>none
  | n+1=>Qko fu r1 (Qdg fu r1 n)
def Qos (fu:Nat) (r1:Request):Option ((List Int)) :=
  Qab (Qey fu r1) λAa=>bif (Aa != 0) then some (([]:List Int)) else Qdg fu r1 fu (([]:List Int)) 0
def Qn0 (fu:Nat)  (Ab:List Int) (x5:Int) (k1:Int→Option (Bool)) (Aa:Int):Option (Bool) :=
  bif (decide (Aa<(Ab.length:Int))) then Qab (ix Ab Aa) λAc=>bif (Ac==x5) then some (true) else k1 (w64 (Aa+1)) else some (false)
def Qhh (fu:Nat)  (Aa:List Int) (x5:Int):Nat→Int→Option (Bool)
  | 0=>λ_=>none
  | n+1=>Qn0 fu Aa x5 (Qhh fu Aa x5 n)
def Qps (fu:Nat) (Aa:List Int) (x5:Int):Option (Bool) :=
  Qhh fu Aa x5 fu 0
def Qn7 (fu:Nat) (k3:Int→Option (Bool)) (Aa:Int)  : Option (Bool) :=
  k3 (w64 (Aa+1))
def Qj2 (fu:Nat)  (Ac:List Pair) (Ab:List Int) (Ae:Int) (k3:Int→Option (Bool)) (Aa:Int):Option (Bool) :=
  bif (decide (Aa<(Ab.length:Int))) then Qab (ix Ab Aa) λAd=>Qab (Qfj fu Ac Ad Ae) λAg=>bif (!Ag) then some (false) else Qab (ix Ab Aa) λAh=>Qab (Qfj fu Ac Ae Ad) λAf=>bif (!Af) then some (false) else Qn7 fu k3 Aa else some (true)
def Qe6 (fu:Nat)  (Aa:List Pair) (Ab:List Int) (Ac:Int):Nat→Int→Option (Bool)
  | 0=>λ_=>none
  | n+1=>Qj2 fu Aa Ab Ac (Qe6 fu Aa Ab Ac n)
def Qo2 (fu:Nat) (Aa:List Pair) (Ab:List Int) (Ac:Int):Option (Bool) :=
  Qe6 fu Aa Ab Ac fu 0
def Qgv (fu:Nat) (Aa:List (List Int)→Int→Option ((List (List Int)))) (Ac:Int) (Ab:List (List Int)):Option ((List (List Int))) :=
  Aa Ab (w64 (Ac+1))
def Qlp (fu:Nat) (Aa:Int→Int→Option ((List (List Int)))) (Ab:Int) (Ac:Int):Option ((List (List Int))) :=
  Aa Ac (w64 (Ab - 1))
def Qmp (fu:Nat) (Ae:List (List Int)→Int→Option ((List (List Int)))) (Ai:List Pair) (Ad:List (List Int)) (Ab:Int) (Af:Int→Int→Option ((List (List Int)))) (Aa:Int) (Ac:Int):Option ((List (List Int))) :=
  bif (decide (Ac≥0)) then Qab (ix Ad Ac) λAl=>Qab (Qo2 fu Ai Al Ab) λAg=>bif Ag then Qlp fu Af Ac Ac else Qlp fu Af Ac Aa else bif (decide (Aa<0)) then Qab (Qfd 24 Ad [([Ab]:List Int)]) λAj=>Qgv fu Ae Ab Aj else Qab (ix Ad Aa) λAk=>Qab (Qfd 8 Ak (([Ab]:List Int))) λAh=>Qab (ix Ad Aa) λAm=>Qgv fu Ae Ab (Qim Ad Aa Ah)
def Qeo (fu:Nat) (Ab:List (List Int)→Int→Option ((List (List Int)))) (Aa:List Pair) (Ac:List (List Int)) (Ad:Int):Nat→Int→Int→Option ((List (List Int)))
  | 0=>λ_ _=>none
  | n+1=>Qmp fu Ab Aa Ac Ad (Qeo fu Ab Aa Ac Ad n)
def Qmb (fu:Nat)  (Ae:List Pair) (Af:List Int) (Ac:List (List Int)→Int→Option ((List (List Int)))) (Ab:List (List Int)) (Aa:Int):Option ((List (List Int))) :=
  bif (decide (Aa<4)) then Qab (Qps fu Af Aa) λAd=>bif (!Ad) then Qgv fu Ac Aa Ab else Qeo fu Ac Ae Ab Aa fu ((-1)) (w64 ((Ab.length:Int) - 1)) else some (Ab)
def Qd1 (fu:Nat)  (Aa:List Pair) (Ab:List Int):Nat→List (List Int)→Int→Option ((List (List Int)))
  | 0=>λ_ _=>none
  | n+1=>Qmb fu Aa Ab (Qd1 fu Aa Ab n)
def Qp2 (fu:Nat) (Aa:List Pair) (Ab:List Int):Option ((List (List Int))) :=
  Qd1 fu Aa Ab fu (([]:List (List Int))) 0
def Qhi (fu:Nat) (r1:Request):Option ((List (List Int))) :=
  Qab (Qos fu r1) λAb=>Qab (Qp2 fu r1.fT Ab) λAa=>some (Aa)
def Qjt (fu:Nat) (k3:List Int→Int→Option ((List Int))) (r1:Request) (Aa:Int) (k4:List Int→Int→Option ((List Int))) (Ab:List Int) (Ac:Int):Option ((List Int)) :=
  Qab (ix r1.fV Aa) λAe=>bif (decide (Ac<Ae.fM)) then Qab (Qfd 8 Ab (([Aa]:List Int))) λAd=>k4 Ad (w64 (Ac+1)) else k3 Ab (w64 (Aa+1))
def Qga (fu:Nat) (k3:List Int→Int→Option ((List Int))) (r1:Request) (Aa:Int):Nat→List Int→Int→Option ((List Int))
  | 0=>λ_ _=>none
  | n+1=>Qjt fu k3 r1 Aa (Qga fu k3 r1 Aa n)
def Qkz (fu:Nat)  (r1:Request) (k3:List Int→Int→Option ((List Int))) (Aa:List Int) (Ab:Int):Option ((List Int)) :=
  bif (decide (Ab<(r1.fV.length:Int))) then Qga fu k3 r1 Ab fu Aa 0 else some (Aa)
def Qea (fu:Nat)  (r1:Request):Nat→List Int→Int→Option ((List Int))
  | 0=>λ_ _=>none
  | n+1=>Qkz fu r1 (Qea fu r1 n)
def Qc0 (fu:Nat) (r1:Request):Option ((List Int)) :=
  Qea fu r1 fu (([]:List Int)) 0
def Qi9 (fu:Nat) (k3:List Int→Int→Option ((List Int))) (Aa:Int) (Ab:List Int):Option ((List Int)) :=
  k3 Ab (w64 (Aa+1))
def Qkv (fu:Nat)  (r1:Request) (Af:Int) (Ad:(List (List Int))) (Ac:(List Int)) (k3:List Int→Int→Option ((List Int))) (Ab:List Int) (Aa:Int):Option ((List Int)) :=
  bif (decide (Aa<(Ac.length:Int))) then Qab (ix Ad Af) λAh=>Qab (ix Ac Aa) λAj=>Qab (ix r1.fV Aj) λAg=>Qab (Qps fu Ah Ag.fL) λAi=>bif Ai then Qab (Qfd 8 Ab (([Aa]:List Int))) λAe=>Qi9 fu k3 Aa Ae else Qi9 fu k3 Aa Ab else some (Ab)
def Qe1 (fu:Nat)  (r1:Request) (Ac:Int) (Aa:(List (List Int))) (Ab:(List Int)):Nat→List Int→Int→Option ((List Int))
  | 0=>λ_ _=>none
  | n+1=>Qkv fu r1 Ac Aa Ab (Qe1 fu r1 Ac Aa Ab n)
def Qow (fu:Nat) (r1:Request) (Ab:Int):Option ((List Int)) :=
  Qab (Qhi fu r1) λAa=>Qab (Qa1 fu Ab 0 (w64 ((Aa.length:Int) - 1))) λAd=>bif (!Ad) then some (([]:List Int)) else Qab (Qc0 fu r1) λAc=>Qe1 fu r1 Ab Aa Ac fu (([]:List Int)) 0
def Qjc (fu:Nat) (k3:List Int→Int→Option ((List Int))) (Ab:Int) (Aa:List Int):Option ((List Int)) :=
  k3 Aa (w64 (Ab+1))
def Qkh (fu:Nat)  (Af:List Int) (Ab:List Int) (k3:List Int→Int→Option ((List Int))) (Ac:List Int) (Aa:Int):Option ((List Int)) :=
  bif (decide (Aa<(Ab.length:Int))) then Qab (ix Ab Aa) λAd=>Qab (Qa1 fu Ad 0 (w64 ((Af.length:Int) - 1))) λAg=>bif Ag then Qab (ix Ab Aa) λAh=>Qab (Qfd 8 Ac (([Ad]:List Int))) λAe=>Qjc fu k3 Aa Ae else Qjc fu k3 Aa Ac else some (Ac)
def Qfb (fu:Nat)  (Ab:List Int) (Aa:List Int):Nat→List Int→Int→Option ((List Int))
  | 0=>λ_ _=>none
  | n+1=>Qkh fu Ab Aa (Qfb fu Ab Aa n)
def Qly (fu:Nat) (Ab:List Int) (Aa:List Int):Option ((List Int)) :=
  Qfb fu Ab Aa fu (([]:List Int)) 0
def Qky (fu:Nat) (r1:Request) (Aa:List Int) (u9:Int):Option (Item×Bool) :=
  Qab (Qa1 fu u9 0 (w64 ((Aa.length:Int) - 1))) λAb=>bif (!Ab) then some ((⟨0,0,0,0,0,0,0⟩:Item),false) else Qab (ix Aa u9) λAd=>Qab (ix r1.fV Ad) λAc=>some (Ac,true)
def Qo8 (fu:Nat) (Aa:Int) (h2:Int) (d3:Int)  : Option (Int) :=
  some (w64 ((w64 (Aa*h2))*d3))
def Qk7 (fu:Nat) (Aa:Int) (h2:Int) (d3:Int):Option (Int) :=
  Qab (Qa1 fu Aa 0 2000) λAb=>bif (!Ab) then some (0) else Qab (Qa1 fu h2 0 2000) λAc=>bif (!Ac) then some (0) else Qab (Qa1 fu d3 0 2000) λAd=>bif (!Ad) then some (0) else Qo8 fu Aa h2 d3
def Qqy (fu:Nat) (k7:L7→Int→Option (L7)) (Aa:Int) (Ab:L7):Option (L7) :=
  k7 Ab (w64 (Aa+1))
def Qq0 (fu:Nat) (k7:L7→Int→Option (L7)) (Ab:L7) (Ad:Int) (Aa:Item):Option (L7) :=
  Qab (Qk7 fu Aa.fW Aa.fH Aa.fD) λAc=>Qqy fu k7 Ad (⟨w64 (Ab.fvol+Ac),w64 (Ab.fgram+Aa.fQ)⟩:L7)
def Qpa (fu:Nat)  (r1:Request) (Af:List Int) (Ac:List Int) (k7:L7→Int→Option (L7)) (Ab:L7) (Aa:Int):Option (L7) :=
  bif (decide (Aa<(Ac.length:Int))) then Qab (ix Ac Aa) λAd=>Qab (Qky fu r1 Af Ad) λAe=>Qq0 fu k7 Ab Aa Ae.1 else some (Ab)
def Qgi (fu:Nat)  (r1:Request) (Aa:List Int) (Ab:List Int):Nat→L7→Int→Option (L7)
  | 0=>λ_ _=>none
  | n+1=>Qpa fu r1 Aa Ab (Qgi fu r1 Aa Ab n)
def Qpo (fu:Nat) (r1:Request) (Aa:List Int) (Ab:List Int):Option (L7) :=
  Qgi fu r1 Aa Ab fu (⟨0,0⟩:L7) 0
def Qpg (fu:Nat) (m9:Typ) (Aa:L7):Option (Bool) :=
  Qab (Qk7 fu m9.fW m9.fH m9.fD) λAb=>bif (decide (Aa.fvol≤Ab)) then some (decide (Aa.fgram≤m9.fQ)) else some (false)
def Qne (fu:Nat) (r1:Request) (Ae:List Int) (m9:Typ) (Aa:List Int) (Ac:Int):Option (Bool) :=
  Qab (Qfd 8 (([]:List Int)) Aa) λAd=>Qab (Qfd 8 Ad (([Ac]:List Int))) λAf=>Qab (Qpo fu r1 Ae Af) λAb=>Qpg fu m9 Ab
def Qhr (fu:Nat) (k3:List (List Int)→Int→Option ((List (List Int)))) (Aa:Int) (Ab:List (List Int)):Option ((List (List Int))) :=
  k3 Ab (w64 (Aa+1))
def Qme (fu:Nat)  (r1:Request) (Ac:List Int) (Ag:Typ×Bool) (Ak:(List Int)) (k3:List (List Int)→Int→Option ((List (List Int)))) (Aa:List (List Int)) (Ab:Int):Option ((List (List Int))) :=
  bif (decide (Ab<(Ac.length:Int))) then bif (decide ((Aa.length:Int)>0)) then Qab (ix Aa (w64 ((Aa.length:Int) - 1))) λAe=>Qab (ix Ac Ab) λAd=>Qab (Qne fu r1 Ak Ag.1 Ae Ad) λAl=>bif Al then Qab (ix Aa (w64 ((Aa.length:Int) - 1))) λAq=>Qab (ix Ac Ab) λAp=>Qab (Qfd 8 Ae (([Ad]:List Int))) λAf=>Qab (ix Aa (w64 ((Aa.length:Int) - 1))) λAm=>Qhr fu k3 Ab (Qim Aa (w64 ((Aa.length:Int) - 1)) Af) else Qab (ix Ac Ab) λAo=>Qab (Qfd 24 Aa [([Ad]:List Int)]) λAh=>Qhr fu k3 Ab Ah else Qab (ix Ac Ab) λAj=>Qab (Qfd 24 Aa [([Aj]:List Int)]) λAi=>Qhr fu k3 Ab Ai else some (Aa)
def Qfr (fu:Nat)  (r1:Request) (Aa:List Int) (Ab:Typ×Bool) (Ac:(List Int)):Nat→List (List Int)→Int→Option ((List (List Int)))
  | 0=>λ_ _=>none
  | n+1=>Qme fu r1 Aa Ab Ac (Qfr fu r1 Aa Ab Ac n)
def Qrn (fu:Nat) (r1:Request) (Aa:List Int):Option ((List (List Int))) :=
  Qab (Qfk fu r1) λAb=>Qab (Qc0 fu r1) λAc=>Qfr fu r1 Aa Ab Ac fu (([]:List (List Int))) 0
def Qok (fu:Nat) (r1:Request) (Ac:List Int):Option ((List (List Int))) :=
  Qab (Qey fu r1) λAa=>bif (Aa != 0) then some (([]:List (List Int))) else Qab (Qc0 fu r1) λAb=>Qab (Qly fu Ab Ac) λAd=>Qab (Qrn fu r1 Ad) λAe=>some (Ae)
def Qgl (fu:Nat) (Aa:List Int):Option ((List Int)) :=
  Qab (Qi2 fu (Aa.length:Int)) λx5=>Qab (Qo4 fu Aa x5 true) λAb=>some (Ab)
def Qjh (fu:Nat) (Ac:List (List Int)→Int→Option ((List (List Int)))) (Ab:Int) (Aa:List (List Int)):Option ((List (List Int))) :=
  Ac Aa (w64 (Ab+1))
def Qjn (fu:Nat) (Aa:Int→Int→Option ((List (List Int)))) (Ac:Int) (Ab:Int):Option ((List (List Int))) :=
  Aa Ab (w64 (Ac - 1))
def Qj1 (fu:Nat) (Af:List (List Int)→Int→Option ((List (List Int)))) (r1:Request) (Ah:Typ×Bool) (Aj:(List Int)) (Ac:List (List Int)) (Ae:Int) (Ad:Int) (Ag:Int→Int→Option ((List (List Int)))) (Aa:Int) (Ab:Int):Option ((List (List Int))) :=
  bif (decide (Ab≥0)) then Qab (ix Ac Ab) λAk=>Qab (Qne fu r1 Aj Ah.1 Ak Ad) λAi=>bif Ai then Qjn fu Ag Ab Ab else Qjn fu Ag Ab Aa else bif (decide (Aa<0)) then Qab (Qfd 24 Ac [([Ad]:List Int)]) λAm=>Qjh fu Af Ae Am else Qab (ix Ac Aa) λAl=>Qab (Qfd 8 Al (([Ad]:List Int))) λAo=>Qab (ix Ac Aa) λAp=>Qjh fu Af Ae (Qim Ac Aa Ao)
def Qfc (fu:Nat) (Ac:List (List Int)→Int→Option ((List (List Int)))) (r1:Request) (Ab:Typ×Bool) (Ad:(List Int)) (Af:List (List Int)) (Aa:Int) (Ae:Int):Nat→Int→Int→Option ((List (List Int)))
  | 0=>λ_ _=>none
  | n+1=>Qj1 fu Ac r1 Ab Ad Af Aa Ae (Qfc fu Ac r1 Ab Ad Af Aa Ae n)
def Qj3 (fu:Nat)  (r1:Request) (Ag:List Int) (Ad:Typ×Bool) (Af:(List Int)) (Ac:(List Int)) (Ae:List (List Int)→Int→Option ((List (List Int)))) (Ab:List (List Int)) (Aa:Int):Option ((List (List Int))) :=
  bif (decide (Aa<(Ac.length:Int))) then Qab (ix Ac Aa) λAi=>Qab (ix Ag Ai) λAh=>Qfc fu Ae r1 Ad Af Ab Aa Ah fu ((-1)) (w64 ((Ab.length:Int) - 1)) else some (Ab)
def Qci (fu:Nat)  (r1:Request) (Aa:List Int) (Ab:Typ×Bool) (Ac:(List Int)) (Ad:(List Int)):Nat→List (List Int)→Int→Option ((List (List Int)))
  | 0=>λ_ _=>none
  | n+1=>Qj3 fu r1 Aa Ab Ac Ad (Qci fu r1 Aa Ab Ac Ad n)
def Qk8 (fu:Nat)  (r1:Request) (Ab:List Int) (Ae:Typ×Bool) (Ac:(List Int)) (k1:List Int→Int→Option ((List (List Int)))) (Ad:List Int) (Aa:Int):Option ((List (List Int))) :=
  bif (decide (Aa<(Ab.length:Int))) then Qab (sls Ab Aa (w64 (Aa+1))) λAi=>Qab (Qpo fu r1 Ac Ai) λAg=>Qab (Qfd 8 Ad (([Ag.fvol]:List Int))) λAf=>k1 Af (w64 (Aa+1)) else Qab (Qgl fu Ad) λAh=>Qci fu r1 Ab Ae Ac Ah fu (([]:List (List Int))) 0
def Qgd (fu:Nat)  (r1:Request) (Aa:List Int) (Ab:Typ×Bool) (Ac:(List Int)):Nat→List Int→Int→Option ((List (List Int)))
  | 0=>λ_ _=>none
  | n+1=>Qk8 fu r1 Aa Ab Ac (Qgd fu r1 Aa Ab Ac n)
def Qqx (fu:Nat) (r1:Request) (Aa:List Int):Option ((List (List Int))) :=
  Qab (Qfk fu r1) λAb=>Qab (Qc0 fu r1) λAc=>Qgd fu r1 Aa Ab Ac fu (([]:List Int)) 0
def Qnb (fu:Nat) (r1:Request) (Ac:List Int):Option ((List (List Int))) :=
  Qab (Qey fu r1) λAa=>bif (Aa != 0) then some (([]:List (List Int))) else Qab (Qc0 fu r1) λAb=>Qab (Qly fu Ab Ac) λAd=>Qab (Qqx fu r1 Ad) λAe=>some (Ae)
def Qon (fu:Nat) (r1:Request) (Aa:List Int):Option ((List (List Int))) :=
  bif (r1.fO==1) then Qab (Qok fu r1 Aa) λAb=>some (Ab) else Qab (Qnb fu r1 Aa) λAc=>some (Ac)
def Qp8 (fu:Nat) (r1:Request) (Ac:List Int) (t9:Typ) (Ad:(List Int))  : Option (Bool) :=
  Qab (Qpo fu r1 Ad Ac) λAa=>Qab (Qk7 fu t9.fW t9.fH t9.fD) λAb=>bif (decide (Aa.fvol≤Ab)) then some (decide (Aa.fgram≤t9.fQ)) else some (false)
def Qqh (fu:Nat) (Aa:Int→Option (Bool)) (Ab:Int)  : Option (Bool) :=
  Aa (w64 (Ab+1))
def Qql (fu:Nat) (Ad:Int→Option (Bool)) (t9:Typ) (Aa:Int) (Ae:Item) (Ab:Bool):Option (Bool) :=
  bif (!Ab) then some (false) else Qab (Qpl fu Ae t9) λAc=>bif (!Ac) then some (false) else Qqh fu Ad Aa
def Qnu (fu:Nat)  (r1:Request) (Ab:List Int) (t9:Typ) (Ad:(List Int)) (Ae:Int→Option (Bool)) (Aa:Int):Option (Bool) :=
  bif (decide (Aa<(Ab.length:Int))) then Qab (ix Ab Aa) λAf=>Qab (Qky fu r1 Ad Af) λAc=>Qql fu Ae t9 Aa Ac.1 Ac.2 else Qp8 fu r1 Ab t9 Ad
def Qfl (fu:Nat)  (r1:Request) (Aa:List Int) (t9:Typ) (Ab:(List Int)):Nat→Int→Option (Bool)
  | 0=>λ_=>none
  | n+1=>Qnu fu r1 Aa t9 Ab (Qfl fu r1 Aa t9 Ab n)
def Qq5 (fu:Nat) (r1:Request) (Ab:List Int) (t9:Typ):Option (Bool) :=
  Qab (Qey fu r1) λAa=>bif (Aa != 0) then some (false) else Qab (Qc0 fu r1) λAc=>Qfl fu r1 Ab t9 Ac fu 0
def Qdr (fu:Nat) (k3:Typ→Bool→Int→Option (Typ×Bool)) (Ab:Int) (Ac:Typ) (Aa:Bool):Option (Typ×Bool) :=
  k3 Ac Aa (w64 (Ab+1))
def Qiz (fu:Nat)  (r1:Request) (Af:List Int) (k3:Typ→Bool→Int→Option (Typ×Bool)) (Ac:Typ) (Ad:Bool) (Aa:Int):Option (Typ×Bool) :=
  bif (decide (Aa<(r1.fG.length:Int))) then Qab (ix r1.fG Aa) λAb=>Qab (Qq5 fu r1 Af Ab) λAe=>bif (!Ae) then Qdr fu k3 Aa Ac Ad else bif (!Ad) then Qdr fu k3 Aa Ab true else bif (decide (Ab.fE<Ac.fE)) then Qdr fu k3 Aa Ab true else bif (Ab.fE==Ac.fE) then bif (decide (Ab.f0<Ac.f0)) then Qdr fu k3 Aa Ab true else Qdr fu k3 Aa Ac Ad else Qdr fu k3 Aa Ac Ad else some (Ac,Ad)
def Qeg (fu:Nat)  (r1:Request) (Aa:List Int):Nat→Typ→Bool→Int→Option (Typ×Bool)
  | 0=>λ_ _ _=>none
  | n+1=>Qiz fu r1 Aa (Qeg fu r1 Aa n)
def Qm5 (fu:Nat) (r1:Request) (Aa:List Int):Option (Typ×Bool) :=
  Qeg fu r1 Aa fu (⟨0,0,0,0,0,0,0⟩:Typ) false 0
def Qkd (fu:Nat) (Ab:List Carton→Int→Option ((List Carton))) (Ac:Int) (Aa:List Carton):Option ((List Carton)) :=
  Ab Aa (w64 (Ac+1))
def Qhg (fu:Nat) (Ab:List Carton→Int→Option ((List Carton))) (Ac:Int) (Aa:List Carton):Option ((List Carton)) :=
  Ab Aa (w64 (Ac+1))
def Qh1 (fu:Nat) (Aj:List Carton→Int→Option ((List Carton))) (Ag:Int) (Ak:(List (List Int))) (Ap:List Carton) (Ac:Int) (Ah:Typ) (Ab:(List Int)) (Ai:List Int→Int→Option ((List Carton))) (Ad:List Int) (Aa:Int):Option ((List Carton)) :=
  bif (decide (Aa<(Ab.length:Int))) then Qab (ix Ak Ac) λAm=>Qab (ix Ab Aa) λAl=>Qab (ix Am Al) λAo=>Qab (Qfd 8 Ad (([Ao]:List Int))) λAf=>Ai Af (w64 (Aa+1)) else Qab (Qfd 40 Ap [(⟨Ah.f0,Ag,Ad⟩:Carton)]) λAe=>Qhg fu Aj Ac Ae
def Qer (fu:Nat) (Af:List Carton→Int→Option ((List Carton))) (Ab:Int) (Ae:(List (List Int))) (Ag:List Carton) (Ad:Int) (Ac:Typ) (Aa:(List Int)):Nat→List Int→Int→Option ((List Carton))
  | 0=>λ_ _=>none
  | n+1=>Qh1 fu Af Ab Ae Ag Ad Ac Aa (Qer fu Af Ab Ae Ag Ad Ac Aa n)
def Qkp (fu:Nat) (Ag:List Carton→Int→Option ((List Carton))) (Ae:Int) (Ab:(List (List Int))) (Ah:List Carton) (Aa:Int) (Af:Typ):Option ((List Carton)) :=
  Qab (ix Ab Aa) λAc=>Qab (Qnj fu Ac) λAd=>Qer fu Ag Ae Ab Ah Aa Af Ad fu (([]:List Int)) 0
def Qib (fu:Nat) (Af:List Carton→Int→Option ((List Carton))) (r1:Request) (Ac:Int) (Ab:(List (List Int))) (Ah:List Carton→Int→Option ((List Carton))) (Ad:List Carton) (Aa:Int):Option ((List Carton)) :=
  bif (decide (Aa<(Ab.length:Int))) then Qab (ix Ab Aa) λAg=>Qab (Qm5 fu r1 Ag) λAe=>Qkp fu Ah Ac Ab Ad Aa Ae.1 else Qkd fu Af Ac Ad
def Qbz (fu:Nat) (Ab:List Carton→Int→Option ((List Carton))) (r1:Request) (Ac:Int) (Aa:(List (List Int))):Nat→List Carton→Int→Option ((List Carton))
  | 0=>λ_ _=>none
  | n+1=>Qib fu Ab r1 Ac Aa (Qbz fu Ab r1 Ac Aa n)
def Qh2 (fu:Nat)  (r1:Request) (Ae:(List (List Int))) (Ac:List Carton→Int→Option ((List Carton))) (Ab:List Carton) (Aa:Int):Option ((List Carton)) :=
  bif (decide (Aa<(Ae.length:Int))) then Qab (Qow fu r1 Aa) λAd=>Qab (Qon fu r1 Ad) λAf=>Qbz fu Ac r1 Aa Af fu Ab 0 else some (Ab)
def Qa4 (fu:Nat)  (r1:Request) (Aa:(List (List Int))):Nat→List Carton→Int→Option ((List Carton))
  | 0=>λ_ _=>none
  | n+1=>Qh2 fu r1 Aa (Qa4 fu r1 Aa n)
def Qlh (fu:Nat) (r1:Request):Option ((List Carton)) :=
  Qab (Qhi fu r1) λAa=>Qa4 fu r1 Aa fu (([]:List Carton)) 0
def Qin (fu:Nat)  (r1:Request) (Ac:Int) (k1:Int→Option (Typ×Bool)) (Aa:Int):Option (Typ×Bool) :=
  bif (decide (Aa<(r1.fG.length:Int))) then Qab (ix r1.fG Aa) λAb=>bif (Ab.f0==Ac) then Qab (ix r1.fG Aa) λAd=>some (Ab,true) else k1 (w64 (Aa+1)) else some ((⟨0,0,0,0,0,0,0⟩:Typ),false)
def Qfg (fu:Nat)  (r1:Request) (Aa:Int):Nat→Int→Option (Typ×Bool)
  | 0=>λ_=>none
  | n+1=>Qin fu r1 Aa (Qfg fu r1 Aa n)
def Qi3 (fu:Nat) (r1:Request) (Aa:Int):Option (Typ×Bool) :=
  Qfg fu r1 Aa fu 0
def Qra (fu:Nat) (r1:Request):Option ((List Int)) :=
  Qab (Qey fu r1) λAa=>bif (Aa != 0) then some (([]:List Int)) else Qab (Qc0 fu r1) λAb=>some (Ab)
def Qo7 (fu:Nat) (k7:Int→Int→Option (Int)) (Ab:Int) (Aa:Int):Option (Int) :=
  k7 Aa (w64 (Ab+1))
def Qpe (fu:Nat) (k7:Int→Int→Option (Int)) (Ac:Int) (Aa:Int) (Ab:Item):Option (Int) :=
  Qo7 fu k7 Aa (w64 (Ac+Ab.fQ))
def Qmg (fu:Nat)  (r1:Request) (Ac:List Int) (Ad:(List Int)) (k7:Int→Int→Option (Int)) (Ab:Int) (Aa:Int):Option (Int) :=
  bif (decide (Aa<(Ac.length:Int))) then Qab (ix Ac Aa) λAf=>Qab (Qky fu r1 Ad Af) λAe=>Qpe fu k7 Ab Aa Ae.1 else some (Ab)
def Qeq (fu:Nat)  (r1:Request) (Aa:List Int) (Ab:(List Int)):Nat→Int→Int→Option (Int)
  | 0=>λ_ _=>none
  | n+1=>Qmg fu r1 Aa Ab (Qeq fu r1 Aa Ab n)
def Qqm (fu:Nat) (r1:Request) (Aa:List Int):Option (Int) :=
  Qab (Qra fu r1) λAb=>Qeq fu r1 Aa Ab fu 0 0
def Qqe (fu:Nat) (r1:Request) (x5:Carton) (Aa:Typ×Bool)  : Option (Int) :=
  Qab (Qqm fu r1 x5.qQ) λAb=>some (w64 (Aa.1.fF+Ab))
def Qrb (fu:Nat) (r1:Request) (x5:Carton):Option (Int) :=
  Qab (Qi3 fu r1 x5.qJ) λAa=>Qab (Qey fu r1) λAb=>bif (Ab != 0) then some (0) else bif (!Aa.2) then some (0) else Qqe fu r1 x5 Aa
def Qpy (fu:Nat) (r1:Request) (x5:Carton) (Aa:Typ×Bool)  : Option (Box) :=
  Qab (Qrb fu r1 x5) λAb=>some (⟨Aa.1.fW,Aa.1.fD,Aa.1.fH,Ab⟩:Box)
def Qq9 (fu:Nat) (r1:Request) (x5:Carton):Option (Box) :=
  Qab (Qi3 fu r1 x5.qJ) λAa=>Qab (Qey fu r1) λAb=>bif (Ab != 0) then some (⟨0,0,0,0⟩:Box) else bif (!Aa.2) then some (⟨0,0,0,0⟩:Box) else Qpy fu r1 x5 Aa
def Qnc (fu:Nat) (k3:Int→Option (Bool)) (Aa:Int)  : Option (Bool) :=
  k3 (w64 (Aa+1))
def Qk0 (fu:Nat)  (p1:Pallet) (Ac:List Box) (k3:Int→Option (Bool)) (Ab:Int):Option (Bool) :=
  bif (decide (Ab<(Ac.length:Int))) then Qab (ix Ac Ab) λAa=>Qab (Qa1 fu Aa.fW 1 p1.fW) λAe=>bif (!Ae) then some (false) else Qab (Qa1 fu Aa.fD 1 p1.fD) λAg=>bif (!Ag) then some (false) else Qab (Qa1 fu Aa.fH 1 p1.fH) λAf=>bif (!Af) then some (false) else Qab (Qa1 fu Aa.fQ 1 p1.fQ) λAd=>bif (!Ad) then some (false) else Qnc fu k3 Ab else some (true)
def Qfa (fu:Nat)  (p1:Pallet) (Aa:List Box):Nat→Int→Option (Bool)
  | 0=>λ_=>none
  | n+1=>Qk0 fu p1 Aa (Qfa fu p1 Aa n)
def Qlz (fu:Nat) (p1:Pallet) (Ab:List Box):Option (Bool) :=
  Qab (Qgm fu p1) λAa=>bif (!Aa) then some (false) else Qfa fu p1 Ab fu 0
def Qjr (fu:Nat) (a1:Int) (b2:Int):Option (Int) :=
  bif (decide (a1>b2)) then some (a1) else some (b2)
def Qgh (fu:Nat) (Aa:Shelf) (Ae:Int) (b6:Box):Option (Shelf) :=
  Qab (Qfd 8 (([]:List Int)) Aa.f9) λAb=>Qab (Qfd 8 Ab (([Ae]:List Int))) λAf=>Qab (Qjr fu Aa.fD b6.fD) λAd=>Qab (Qjr fu Aa.fH b6.fH) λAc=>some (⟨Af,w64 (Aa.fW+b6.fW),Ad,Ac,w64 (Aa.fQ+b6.fQ)⟩:Shelf)
def Qf9 (fu:Nat) (k4:List Shelf→Int→Option ((List Shelf))) (Ab:Int) (Aa:List Shelf):Option ((List Shelf)) :=
  k4 Aa (w64 (Ab+1))
def Qjv (fu:Nat)  (p1:Pallet) (Am:List Box) (Ac:(List Int)) (k4:List Shelf→Int→Option ((List Shelf))) (Aa:List Shelf) (Ab:Int):Option ((List Shelf)) :=
  bif (decide (Ab<(Ac.length:Int))) then Qab (ix Ac Ab) λAe=>Qab (ix Am Ae) λAd=>bif (decide ((Aa.length:Int)>0)) then Qab (ix Aa (w64 ((Aa.length:Int) - 1))) λAf=>bif (decide ((w64 (Af.fW+Ad.fW))≤p1.fW)) then Qab (ix Aa (w64 ((Aa.length:Int) - 1))) λAu=>bif (decide ((w64 (Af.fQ+Ad.fQ))≤p1.fQ)) then Qab (ix Aa (w64 ((Aa.length:Int) - 1))) λAr=>Qab (ix Ac Ab) λAs=>Qab (Qgh fu Af Ae Ad) λAi=>Qab (ix Aa (w64 ((Aa.length:Int) - 1))) λAp=>Qf9 fu k4 Ab (Qim Aa (w64 ((Aa.length:Int) - 1)) Ai) else Qab (ix Ac Ab) λAv=>Qab (Qgh fu (⟨[],0,0,0,0⟩:Shelf) Ae Ad) λAh=>Qab (Qfd 56 Aa [Ah]) λAl=>Qf9 fu k4 Ab Al else Qab (ix Ac Ab) λAt=>Qab (Qgh fu (⟨[],0,0,0,0⟩:Shelf) Ae Ad) λAk=>Qab (Qfd 56 Aa [Ak]) λAg=>Qf9 fu k4 Ab Ag else Qab (ix Ac Ab) λAq=>Qab (Qgh fu (⟨[],0,0,0,0⟩:Shelf) Ae Ad) λAj=>Qab (Qfd 56 Aa [Aj]) λAo=>Qf9 fu k4 Ab Ao else some (Aa)
def Qd8 (fu:Nat)  (p1:Pallet) (Ab:List Box) (Aa:(List Int)):Nat→List Shelf→Int→Option ((List Shelf))
  | 0=>λ_ _=>none
  | n+1=>Qjv fu p1 Ab Aa (Qd8 fu p1 Ab Aa n)
def Qki (fu:Nat)  (p1:Pallet) (Aa:List Box) (k1:List Int→Int→Option ((List Shelf))) (Ac:List Int) (Ab:Int):Option ((List Shelf)) :=
  bif (decide (Ab<(Aa.length:Int))) then Qab (ix Aa Ab) λAd=>Qab (Qfd 8 Ac (([Ad.fD]:List Int))) λAf=>k1 Af (w64 (Ab+1)) else Qab (Qgl fu Ac) λAe=>Qd8 fu p1 Aa Ae fu (([]:List Shelf)) 0
def Qgg (fu:Nat)  (p1:Pallet) (Aa:List Box):Nat→List Int→Int→Option ((List Shelf))
  | 0=>λ_ _=>none
  | n+1=>Qki fu p1 Aa (Qgg fu p1 Aa n)
def Qoo (fu:Nat) (p1:Pallet) (Aa:List Box):Option ((List Shelf)) :=
  Qab (Qlz fu p1 Aa) λAb=>bif (!Ab) then some (([]:List Shelf)) else Qgg fu p1 Aa fu (([]:List Int)) 0
def Qpp (fu:Nat) (p1:Pallet) (d2:Int) (h3:Int) (Aa:Int):Option (Bool) :=
  Qab (Qa1 fu d2 1 p1.fD) λx8=>bif x8 then Qab (Qa1 fu h3 1 p1.fH) λAb=>bif Ab then Qab (Qa1 fu Aa 1 p1.fQ) λAc=>some (Ac) else some (false) else some (false)
def Qh6 (fu:Nat)  (p1:Pallet) (Ab:List Shelf) (k1:Int→Option (Bool)) (Aa:Int):Option (Bool) :=
  bif (decide (Aa<(Ab.length:Int))) then Qab (ix Ab Aa) λAc=>Qab (ix Ab Aa) λAe=>Qab (ix Ab Aa) λAf=>Qab (Qpp fu p1 Ac.fD Ac.fH Ac.fQ) λAd=>bif (!Ad) then some (false) else k1 (w64 (Aa+1)) else some (true)
def Qew (fu:Nat)  (p1:Pallet) (Aa:List Shelf):Nat→Int→Option (Bool)
  | 0=>λ_=>none
  | n+1=>Qh6 fu p1 Aa (Qew fu p1 Aa n)
def Qll (fu:Nat) (p1:Pallet) (Ab:List Shelf):Option (Bool) :=
  Qab (Qgm fu p1) λAa=>bif (!Aa) then some (false) else Qew fu p1 Ab fu 0
def Qmk (fu:Nat) (k7:List Layer→Int→Option ((List Layer))) (Ab:Int) (Aa:List Layer):Option ((List Layer)) :=
  k7 Aa (w64 (Ab+1))
def Qc1 (fu:Nat) (k7:List Layer→Int→Option ((List Layer))) (Ae:Int) (Ab:Shelf) (Ad:List Layer) (Ac:Int):Option ((List Layer)) :=
  Qab (ix Ad (w64 (Ac - 1))) λAa=>Qab (Qfd 8 (([]:List Int)) Aa.fP) λAf=>Qab (Qfd 8 Af (([Ae]:List Int))) λAh=>Qab (Qjr fu Aa.fH Ab.fH) λAg=>Qab (ix Ad (w64 (Ac - 1))) λAi=>Qmk fu k7 Ae (Qim Ad (w64 (Ac - 1)) (⟨Ah,w64 (Aa.fD+Ab.fD),Ag,w64 (Aa.fQ+Ab.fQ)⟩:Layer))
def Qi1 (fu:Nat)  (p1:Pallet) (Ad:List Shelf) (k7:List Layer→Int→Option ((List Layer))) (Aa:List Layer) (Ac:Int):Option ((List Layer)) :=
  bif (decide (Ac<(Ad.length:Int))) then Qab (ix Ad Ac) λAb=>bif ((Aa.length:Int)==0) then Qab (Qfd 48 Aa [(⟨[],0,0,0⟩:Layer)]) λAf=>Qc1 fu k7 Ac Ab Af (w64 ((Aa.length:Int)+1)) else Qab (ix Aa (w64 ((Aa.length:Int) - 1))) λAe=>bif (decide ((w64 (Ae.fD+Ab.fD))>p1.fD)) then Qab (Qfd 48 Aa [(⟨[],0,0,0⟩:Layer)]) λAh=>Qc1 fu k7 Ac Ab Ah (w64 ((Aa.length:Int)+1)) else Qab (ix Aa (w64 ((Aa.length:Int) - 1))) λAi=>bif (decide ((w64 (Ae.fQ+Ab.fQ))>p1.fQ)) then Qab (Qfd 48 Aa [(⟨[],0,0,0⟩:Layer)]) λAg=>Qc1 fu k7 Ac Ab Ag (w64 ((Aa.length:Int)+1)) else Qc1 fu k7 Ac Ab Aa (Aa.length:Int) else some (Aa)
def Qbb (fu:Nat)  (p1:Pallet) (Aa:List Shelf):Nat→List Layer→Int→Option ((List Layer))
  | 0=>λ_ _=>none
  | n+1=>Qi1 fu p1 Aa (Qbb fu p1 Aa n)
def Qm6 (fu:Nat) (p1:Pallet) (Aa:List Shelf):Option ((List Layer)) :=
  Qab (Qll fu p1 Aa) λAb=>bif (!Ab) then some (([]:List Layer)) else Qbb fu p1 Aa fu (([]:List Layer)) 0
def Qiu (fu:Nat)  (p1:Pallet) (Ab:List Layer) (k1:Int→Option (Bool)) (Aa:Int):Option (Bool) :=
  bif (decide (Aa<(Ab.length:Int))) then Qab (ix Ab Aa) λAc=>Qab (ix Ab Aa) λAe=>Qab (ix Ab Aa) λAf=>Qab (Qpp fu p1 Ac.fD Ac.fH Ac.fQ) λAd=>bif (!Ad) then some (false) else k1 (w64 (Aa+1)) else some (true)
def Qfi (fu:Nat)  (p1:Pallet) (Aa:List Layer):Nat→Int→Option (Bool)
  | 0=>λ_=>none
  | n+1=>Qiu fu p1 Aa (Qfi fu p1 Aa n)
def Qna (fu:Nat) (p1:Pallet) (Ab:List Layer):Option (Bool) :=
  Qab (Qgm fu p1) λAa=>bif (!Aa) then some (false) else Qfi fu p1 Ab fu 0
def Qn1 (fu:Nat) (k7:List Load→Int→Option ((List Load))) (Ab:Int) (Aa:List Load):Option ((List Load)) :=
  k7 Aa (w64 (Ab+1))
def Qc9 (fu:Nat) (k7:List Load→Int→Option ((List Load))) (Ad:Int) (Ae:Layer) (Ac:List Load) (Aa:Int):Option ((List Load)) :=
  Qab (ix Ac (w64 (Aa - 1))) λAb=>Qab (Qfd 8 (([]:List Int)) Ab.f8) λAg=>Qab (Qfd 8 Ag (([Ad]:List Int))) λAf=>Qab (ix Ac (w64 (Aa - 1))) λAh=>Qn1 fu k7 Ad (Qim Ac (w64 (Aa - 1)) (⟨Af,w64 (Ab.fH+Ae.fH),w64 (Ab.fQ+Ae.fQ)⟩:Load))
def Qkn (fu:Nat)  (p1:Pallet) (Ae:List Layer) (k7:List Load→Int→Option ((List Load))) (Aa:List Load) (Ab:Int):Option ((List Load)) :=
  bif (decide (Ab<(Ae.length:Int))) then Qab (ix Ae Ab) λAc=>bif ((Aa.length:Int)==0) then Qab (Qfd 40 Aa [(⟨[],0,0⟩:Load)]) λAh=>Qc9 fu k7 Ab Ac Ah (w64 ((Aa.length:Int)+1)) else Qab (ix Aa (w64 ((Aa.length:Int) - 1))) λAd=>bif (decide ((w64 (Ad.fH+Ac.fH))>p1.fH)) then Qab (Qfd 40 Aa [(⟨[],0,0⟩:Load)]) λAg=>Qc9 fu k7 Ab Ac Ag (w64 ((Aa.length:Int)+1)) else Qab (ix Aa (w64 ((Aa.length:Int) - 1))) λAi=>bif (decide ((w64 (Ad.fQ+Ac.fQ))>p1.fQ)) then Qab (Qfd 40 Aa [(⟨[],0,0⟩:Load)]) λAf=>Qc9 fu k7 Ab Ac Af (w64 ((Aa.length:Int)+1)) else Qc9 fu k7 Ab Ac Aa (Aa.length:Int) else some (Aa)
def Qbk (fu:Nat)  (p1:Pallet) (Aa:List Layer):Nat→List Load→Int→Option ((List Load))
  | 0=>λ_ _=>none
  | n+1=>Qkn fu p1 Aa (Qbk fu p1 Aa n)
def Qov (fu:Nat) (p1:Pallet) (Aa:List Layer):Option ((List Load)) :=
  Qab (Qna fu p1 Aa) λAb=>bif (!Ab) then some (([]:List Load)) else Qbk fu p1 Aa fu (([]:List Load)) 0
def Qkj (fu:Nat) (Aj:List Spot→Int→Int→Option ((List Spot))) (Ai:List Box) (Ak:Int) (Al:Int) (Ae:Int) (Ah:Int) (Ab:Shelf) (Ag:List Spot→Int→Int→Option ((List Spot))) (Ac:List Spot) (Af:Int) (Aa:Int):Option ((List Spot)) :=
  bif (decide (Aa<(Ab.f9.length:Int))) then Qab (ix Ab.f9 Aa) λAd=>Qab (ix Ac Ad) λAo=>Qab (ix Ab.f9 Aa) λAp=>Qab (ix Ai Ad) λAm=>Ag (Qim Ac Ad (⟨Ak,Af,Ae,Al⟩:Spot)) (w64 (Af+Am.fW)) (w64 (Aa+1)) else Aj Ac (w64 (Ae+Ab.fD)) (w64 (Ah+1))
def Qgb (fu:Nat) (Ad:List Spot→Int→Int→Option ((List Spot))) (Ac:List Box) (Ab:Int) (Ae:Int) (Af:Int) (Aa:Int) (Ag:Shelf):Nat→List Spot→Int→Int→Option ((List Spot))
  | 0=>λ_ _ _=>none
  | n+1=>Qkj fu Ad Ac Ab Ae Af Aa Ag (Qgb fu Ad Ac Ab Ae Af Aa Ag n)
def Qjx (fu:Nat) (Aj:List Spot→Int→Int→Option ((List Spot))) (Ah:List Box) (Ae:(List Shelf)) (Ag:Int) (Ad:Int) (Ak:Int) (Ab:Layer) (Ai:List Spot→Int→Int→Option ((List Spot))) (Ac:List Spot) (Al:Int) (Aa:Int):Option ((List Spot)) :=
  bif (decide (Aa<(Ab.fP.length:Int))) then Qab (ix Ab.fP Aa) λAf=>Qab (ix Ae Af) λAm=>Qgb fu Ai Ah Ag Ad Al Aa Am fu Ac 0 0 else Aj Ac (w64 (Ad+Ab.fH)) (w64 (Ak+1))
def Qdh (fu:Nat) (Ae:List Spot→Int→Int→Option ((List Spot))) (Ac:List Box) (Aa:(List Shelf)) (Ab:Int) (Ad:Int) (Ag:Int) (Af:Layer):Nat→List Spot→Int→Int→Option ((List Spot))
  | 0=>λ_ _ _=>none
  | n+1=>Qjx fu Ae Ac Aa Ab Ad Ag Af (Qdh fu Ae Ac Aa Ab Ad Ag Af n)
def Qlb (fu:Nat) (Am:List Spot→Int→Option ((List Spot))) (Ai:List Box) (Af:(List Shelf)) (Ah:(List Layer)) (Ae:(List Load)) (Aa:Int) (Ak:List Spot→Int→Int→Option ((List Spot))) (Ad:List Spot) (Aj:Int) (Ab:Int):Option ((List Spot)) :=
  Qab (ix Ae Aa) λAc=>bif (decide (Ab<(Ac.f8.length:Int))) then Qab (ix Ae Aa) λAo=>Qab (ix Ac.f8 Ab) λAg=>Qab (ix Ah Ag) λAl=>Qdh fu Ak Ai Af Aa Aj Ab Al fu Ad 0 0 else Am Ad (w64 (Aa+1))
def Qb7 (fu:Nat) (Ae:List Spot→Int→Option ((List Spot))) (Ad:List Box) (Aa:(List Shelf)) (Ab:(List Layer)) (Af:(List Load)) (Ac:Int):Nat→List Spot→Int→Int→Option ((List Spot))
  | 0=>λ_ _ _=>none
  | n+1=>Qlb fu Ae Ad Aa Ab Af Ac (Qb7 fu Ae Ad Aa Ab Af Ac n)
def Qkq (fu:Nat)  (Af:List Box) (Ad:(List Shelf)) (Ae:(List Layer)) (Ab:(List Load)) (Ag:List Spot→Int→Option ((List Spot))) (Ac:List Spot) (Aa:Int):Option ((List Spot)) :=
  bif (decide (Aa<(Ab.length:Int))) then Qb7 fu Ag Af Ad Ae Ab Aa fu Ac 0 0 else some (Ac)
def Qbg (fu:Nat)  (Ad:List Box) (Ab:(List Shelf)) (Ac:(List Layer)) (Aa:(List Load)):Nat→List Spot→Int→Option ((List Spot))
  | 0=>λ_ _=>none
  | n+1=>Qkq fu Ad Ab Ac Aa (Qbg fu Ad Ab Ac Aa n)
def Ql1 (fu:Nat) (p1:Pallet) (Aa:List Box):Option ((List Spot)) :=
  Qab (mk 32 (⟨(0:Int),(0:Int),(0:Int),(0:Int)⟩:Spot) (Aa.length:Int)) λAe=>Qab (Qlz fu p1 Aa) λAd=>bif (!Ad) then some (([]:List Spot)) else Qab (Qoo fu p1 Aa) λAb=>Qab (Qm6 fu p1 Ab) λAc=>Qab (Qov fu p1 Ac) λAf=>Qbg fu Aa Ab Ac Af fu Ae 0
def Qjj (fu:Nat) (k3:Int→Int→Option (Int)) (Aa:Int) (Ab:Int):Option (Int) :=
  k3 Ab (w64 (Aa+1))
def Qkw (fu:Nat)  (Ab:List Spot) (k3:Int→Int→Option (Int)) (Ac:Int) (Aa:Int):Option (Int) :=
  bif (decide (Aa<(Ab.length:Int))) then Qab (ix Ab Aa) λAd=>Qab (Qa1 fu Ad.fJ 0 999999) λAf=>bif Af then Qab (ix Ab Aa) λAg=>Qab (Qjr fu Ac (w64 (Ad.fJ+1))) λAe=>Qjj fu k3 Aa Ae else Qjj fu k3 Aa Ac else some (Ac)
def Qe4 (fu:Nat)  (Aa:List Spot):Nat→Int→Int→Option (Int)
  | 0=>λ_ _=>none
  | n+1=>Qkw fu Aa (Qe4 fu Aa n)
def Qoz (fu:Nat) (Aa:List Spot):Option (Int) :=
  Qe4 fu Aa fu 0 0
def Qlk (fu:Nat) (Ab:List Box→Int→Option (Plan×Bool)) (Ac:Int) (Aa:List Box):Option (Plan×Bool) :=
  Ab Aa (w64 (Ac+1))
def Ql5 (fu:Nat) (Af:List Spot→Int→Int→Option (Plan×Bool)) (Ae:Int) (Ai:Int) (Ac:(List Spot)) (Ag:List Spot→Int→Option (Plan×Bool)) (Ad:List Spot) (Ab:Int):Option (Plan×Bool) :=
  bif (decide (Ab<(Ac.length:Int))) then Qab (ix Ac Ab) λAa=>Qab (Qfd 32 Ad (([(⟨w64 (Aa.fJ+Ae),Aa.fX,Aa.fY,Aa.fZ⟩:Spot)]:List Spot))) λAj=>Ag Aj (w64 (Ab+1)) else Qab (Qoz fu Ac) λAh=>Af Ad (w64 (Ae+Ah)) (w64 (Ai+1))
def Qfu (fu:Nat) (Ad:List Spot→Int→Int→Option (Plan×Bool)) (Ab:Int) (Ac:Int) (Aa:(List Spot)):Nat→List Spot→Int→Option (Plan×Bool)
  | 0=>λ_ _=>none
  | n+1=>Ql5 fu Ad Ab Ac Aa (Qfu fu Ad Ab Ac Aa n)
def Qmd (fu:Nat) (Ah:List Spot→Int→Int→Option (Plan×Bool)) (r1:Request) (Ac:(List Carton)) (Ai:List Spot) (Ak:Int) (Ae:Int) (Af:List Box→Int→Option (Plan×Bool)) (Ab:List Box) (Aa:Int):Option (Plan×Bool) :=
  bif (decide (Aa<(Ac.length:Int))) then Qab (ix Ac Aa) λAd=>bif (Ad.ft==Ae) then Qab (ix Ac Aa) λAm=>Qab (Qq9 fu r1 Ad) λAj=>Qab (Qfd 32 Ab (([Aj]:List Box))) λAl=>Qlk fu Af Aa Al else Qlk fu Af Aa Ab else Qab (Ql1 fu r1.fJ Ab) λAg=>Qfu fu Ah Ak Ae Ag fu Ai 0
def Qfx (fu:Nat) (Aa:List Spot→Int→Int→Option (Plan×Bool)) (r1:Request) (Ab:(List Carton)) (Ac:List Spot) (Ad:Int) (Ae:Int):Nat→List Box→Int→Option (Plan×Bool)
  | 0=>λ_ _=>none
  | n+1=>Qmd fu Aa r1 Ab Ac Ad Ae (Qfx fu Aa r1 Ab Ac Ad Ae n)
def Qmm (fu:Nat)  (r1:Request) (Aa:(List Carton)) (Af:(List (List Int))) (Ad:List Spot→Int→Int→Option (Plan×Bool)) (Ab:List Spot) (Ae:Int) (Ac:Int):Option (Plan×Bool) :=
  bif (decide (Ac<(Af.length:Int))) then Qfx fu Ad r1 Aa Ab Ae Ac fu (([]:List Box)) 0 else some ((⟨Aa,Ab⟩:Plan),true)
def Qcb (fu:Nat)  (r1:Request) (Ab:(List Carton)) (Aa:(List (List Int))):Nat→List Spot→Int→Int→Option (Plan×Bool)
  | 0=>λ_ _ _=>none
  | n+1=>Qmm fu r1 Ab Aa (Qcb fu r1 Ab Aa n)
def Qp9 (fu:Nat) (r1:Request):Option (Plan×Bool) :=
  Qab (Qey fu r1) λAb=>bif (Ab != 0) then some ((⟨[],[]⟩:Plan),false) else Qab (Qlh fu r1) λAc=>Qab (Qhi fu r1) λAa=>Qcb fu r1 Ac Aa fu (([]:List Spot)) 0 0
def Qr0 (fu:Nat) (x1:Int):Option ByteArray:=Q90 x1
def Qn6 (fu:Nat) (n1:Int):Option (ByteArray) :=
  Qab (Qr0 fu n1) λx2=>some (x2)
def Qix (fu:Nat)  (Ad:List Int) (k1:ByteArray→Int→Option (ByteArray×Bool)) (Ab:ByteArray) (Aa:Int):Option (ByteArray×Bool) :=
  bif (decide (Aa<(Ad.length:Int))) then Qab (ix Ad Aa) λAc=>Qab (Qar fu Ac 0 999999) λAe=>bif (!Ae) then some ((⟨#[]⟩:ByteArray),false) else Qab (Qn6 fu Ac) λAi=>Qab (Q5d (⟨#[32]⟩:ByteArray) Ai) λAf=>Qab (Q5d Ab Af) λAg=>k1 Ag (w64 (Aa+1)) else Qab (Q5d Ab (⟨#[10]⟩:ByteArray)) λAh=>some (Ah,true)
def Qee (fu:Nat)  (Aa:List Int):Nat→ByteArray→Int→Option (ByteArray×Bool)
  | 0=>λ_ _=>none
  | n+1=>Qix fu Aa (Qee fu Aa n)
def Qhb (fu:Nat) (Aa:ByteArray) (Ab:List Int):Option (ByteArray×Bool) :=
  Qee fu Ab fu Aa 0
def Qgp (fu:Nat) (o8:List ByteArray) (Aa:ByteArray×Bool) (Ab:Bool):Option ((Bool×(List ByteArray))) :=
  Qab (Qfd 16 o8 (([Aa.1]:List ByteArray))) λAc=>some ((Ab,Ac))
def Qa8 (fu:Nat) (Ab:ByteArray) (Ac:List Int) (g6:Bool) (o8:List ByteArray):Option ((Bool×(List ByteArray))) :=
  Qab (Qhb fu Ab Ac) λAa=>bif g6 then Qgp fu o8 Aa Aa.2 else Qgp fu o8 Aa false
def Qo3 (fu:Nat) (x1:List ByteArray) (x2:ByteArray):Option ByteArray:=Ja3 x1 x2
def Qh5 (fu:Nat)  (r1:Request) (k3:List ByteArray→Bool→Int→Option (ByteArray)) (Ac:List ByteArray) (Ae:Bool) (Ab:Int):Option (ByteArray) :=
  bif (decide (Ab<(r1.fV.length:Int))) then Qab (ix r1.fV Ab) λAa=>Qab (Qa8 fu (⟨#[105,116,101,109]⟩:ByteArray) (([Aa.f0,Aa.fW,Aa.fH,Aa.fD,Aa.fQ,Aa.fL,Aa.fM]:List Int)) Ae Ac) λAd=>k3 Ad.2 Ad.1 (w64 (Ab+1)) else bif (!Ae) then some (⟨#[]⟩:ByteArray) else Qab (Qo3 fu Ac (⟨#[]⟩:ByteArray)) λAf=>some (Af)
def Qd0 (fu:Nat)  (r1:Request):Nat→List ByteArray→Bool→Int→Option (ByteArray)
  | 0=>λ_ _ _=>none
  | n+1=>Qh5 fu r1 (Qd0 fu r1 n)
def Qh0 (fu:Nat)  (r1:Request) (k2:List ByteArray→Bool→Int→Option (ByteArray)) (Ad:List ByteArray) (Ac:Bool) (Ab:Int):Option (ByteArray) :=
  bif (decide (Ab<(r1.fG.length:Int))) then Qab (ix r1.fG Ab) λAa=>Qab (Qa8 fu (⟨#[116,121,112,101]⟩:ByteArray) (([Aa.f0,Aa.fW,Aa.fH,Aa.fD,Aa.fF,Aa.fQ,Aa.fE]:List Int)) Ac Ad) λAf=>k2 Af.2 Af.1 (w64 (Ab+1)) else Qab (Qa8 fu (⟨#[109,97,115,116,101,114]⟩:ByteArray) (([r1.fR]:List Int)) Ac Ad) λAe=>Qd0 fu r1 fu Ae.2 Ae.1 0
def Qdz (fu:Nat)  (r1:Request):Nat→List ByteArray→Bool→Int→Option (ByteArray)
  | 0=>λ_ _ _=>none
  | n+1=>Qh0 fu r1 (Qdz fu r1 n)
def Qhz (fu:Nat)  (r1:Request) (k1:List ByteArray→Bool→Int→Option (ByteArray)) (Ae:List ByteArray) (Ac:Bool) (Aa:Int):Option (ByteArray) :=
  bif (decide (Aa<(r1.fT.length:Int))) then Qab (ix r1.fT Aa) λAd=>Qab (Qa8 fu (⟨#[119,105,116,104]⟩:ByteArray) (([Ad.fA,Ad.fB]:List Int)) Ac Ae) λAb=>k1 Ab.2 Ab.1 (w64 (Aa+1)) else Qdz fu r1 fu Ae Ac 0
def Qev (fu:Nat)  (r1:Request):Nat→List ByteArray→Bool→Int→Option (ByteArray)
  | 0=>λ_ _ _=>none
  | n+1=>Qhz fu r1 (Qev fu r1 n)
def Qel (fu:Nat) (r1:Request):Option (ByteArray) :=
  Qab (Qar fu r1.fO 0 1) λAc=>bif (!Ac) then some (⟨#[]⟩:ByteArray) else Qab (ix (([(⟨#[119,97,121,32,102,105,114,115,116,10]⟩:ByteArray),(⟨#[119,97,121,32,110,101,120,116,10]⟩:ByteArray)]:List ByteArray)) r1.fO) λAd=>Qab (Qa8 fu (⟨#[112,97,108,108,101,116]⟩:ByteArray) (([r1.fJ.fW,r1.fJ.fD,r1.fJ.fH,r1.fJ.fQ]:List Int)) true (([Ad]:List ByteArray))) λAa=>Qab (Qa8 fu (⟨#[99,108,97,115,115,101,115]⟩:ByteArray) (([r1.fU]:List Int)) Aa.1 Aa.2) λAb=>Qev fu r1 fu Ab.2 Ab.1 0
def Qmy (fu:Nat) (k3:List ByteArray→Int→Int→Option ((List ByteArray))) (Aa:Int) (Ac:List ByteArray) (Ab:Int):Option ((List ByteArray)) :=
  k3 Ac Ab (w64 (Aa+1))
def Qns (fu:Nat)  (Ab:ByteArray) (Aj:Int) (k3:List ByteArray→Int→Int→Option ((List ByteArray))) (Ac:List ByteArray) (Ad:Int) (Aa:Int):Option ((List ByteArray)) :=
  bif (decide (Aa<((Ab.size:Int)))) then Qab (sx Ab Aa) λAe=>bif (Ae==Aj) then Qab (ssl Ab Ad Aa) λAh=>Qab (Qfd 16 Ac (([Ah]:List ByteArray))) λAi=>Qmy fu k3 Aa Ai (w64 (Aa+1)) else Qmy fu k3 Aa Ac Ad else Qab (ssl Ab Ad (Ab.size:Int)) λAf=>Qab (Qfd 16 Ac (([Af]:List ByteArray))) λAg=>some (Ag)
def Qgj (fu:Nat)  (Aa:ByteArray) (Ab:Int):Nat→List ByteArray→Int→Int→Option ((List ByteArray))
  | 0=>λ_ _ _=>none
  | n+1=>Qns fu Aa Ab (Qgj fu Aa Ab n)
def Qpr (fu:Nat) (Aa:ByteArray) (Ab:Int):Option ((List ByteArray)) :=
  Qgj fu Aa Ab fu (([]:List ByteArray)) 0 0
def Qr2 (fu:Nat) (x1:ByteArray):Option (Int×Bool):=Ja8 x1
def Qpb (fu:Nat) (x2:Int×Bool)  : Option (Int×Bool) :=
  some (x2.1,true)
def Qkl (fu:Nat) (Aa:ByteArray):Option (Int×Bool) :=
  Qab (Qr2 fu Aa) λx2=>bif x2.2 then some (0,false) else Qab (Qar fu x2.1 0 999999) λAc=>bif (!Ac) then some (0,false) else Qab (Qn6 fu x2.1) λAb=>bif (!(Ab.toList==Aa.toList)) then some (0,false) else Qpb fu x2
def Qku (fu:Nat)  (Ac:List ByteArray) (k2:List Int→Int→Option ((List Int)×Bool)) (Ad:List Int) (Aa:Int):Option ((List Int)×Bool) :=
  bif (decide (Aa<(Ac.length:Int))) then Qab (ix Ac Aa) λAe=>Qab (Qkl fu Ae) λAb=>bif (!Ab.2) then some (([]:List Int),false) else Qab (Qfd 8 Ad (([Ab.1]:List Int))) λAf=>k2 Af (w64 (Aa+1)) else some (Ad,true)
def Qe9 (fu:Nat)  (Aa:List ByteArray):Nat→List Int→Int→Option ((List Int)×Bool)
  | 0=>λ_ _=>none
  | n+1=>Qku fu Aa (Qe9 fu Aa n)
def Qnn (fu:Nat) (x4:(List ByteArray))  : Option ((List Int)×Bool) :=
  Qab (sls x4 1 (x4.length:Int)) λAa=>Qe9 fu Aa fu (([]:List Int)) 0
def Qb5 (fu:Nat) (Ab:ByteArray) (Aa:ByteArray) (Ac:Int):Option ((List Int)×Bool) :=
  Qab (Qpr fu Ab 32) λx4=>Qab (ix x4 0) λAd=>bif (!(Ad.toList==Aa.toList)) then some (([]:List Int),false) else bif ((x4.length:Int) != (w64 (Ac+1))) then some (([]:List Int),false) else Qnn fu x4
def Qoe (fu:Nat) (r1:Request) (Aa:ByteArray):Option (Int×Request) :=
  bif (Aa.toList==(⟨#[119,97,121,32,102,105,114,115,116]⟩:ByteArray).toList) then some (0,(⟨0,r1.fJ,r1.fU,r1.fT,r1.fG,r1.fR,r1.fV⟩:Request)) else bif (Aa.toList==(⟨#[119,97,121,32,110,101,120,116]⟩:ByteArray).toList) then some (0,(⟨1,r1.fJ,r1.fU,r1.fT,r1.fG,r1.fR,r1.fV⟩:Request)) else Qab (Qb5 fu Aa (⟨#[112,97,108,108,101,116]⟩:ByteArray) 4) λAd=>bif Ad.2 then Qab (ix Ad.1 0) λBg=>Qab (ix Ad.1 1) λAr=>Qab (ix Ad.1 2) λAt=>Qab (ix Ad.1 3) λAu=>some (1,(⟨r1.fO,(⟨Bg,Ar,At,Au⟩:Pallet),r1.fU,r1.fT,r1.fG,r1.fR,r1.fV⟩:Request)) else Qab (Qb5 fu Aa (⟨#[99,108,97,115,115,101,115]⟩:ByteArray) 1) λAg=>bif Ag.2 then Qab (ix Ag.1 0) λAv=>some (2,(⟨r1.fO,r1.fJ,Av,r1.fT,r1.fG,r1.fR,r1.fV⟩:Request)) else Qab (Qb5 fu Aa (⟨#[119,105,116,104]⟩:ByteArray) 2) λAe=>bif Ae.2 then Qab (ix Ae.1 0) λBf=>Qab (ix Ae.1 1) λAl=>Qab (Qfd 16 r1.fT (([(⟨Bf,Al⟩:Pair)]:List Pair))) λBd=>some (3,(⟨r1.fO,r1.fJ,r1.fU,Bd,r1.fG,r1.fR,r1.fV⟩:Request)) else Qab (Qb5 fu Aa (⟨#[116,121,112,101]⟩:ByteArray) 7) λAb=>bif Ab.2 then Qab (ix Ab.1 0) λAs=>Qab (ix Ab.1 1) λBb=>Qab (ix Ab.1 2) λAp=>Qab (ix Ab.1 3) λAz=>Qab (ix Ab.1 4) λAw=>Qab (ix Ab.1 5) λAi=>Qab (ix Ab.1 6) λAq=>Qab (Qfd 56 r1.fG (([(⟨As,Bb,Ap,Az,Aw,Ai,Aq⟩:Typ)]:List Typ))) λBe=>some (4,(⟨r1.fO,r1.fJ,r1.fU,r1.fT,Be,r1.fR,r1.fV⟩:Request)) else Qab (Qb5 fu Aa (⟨#[109,97,115,116,101,114]⟩:ByteArray) 1) λAf=>bif Af.2 then Qab (ix Af.1 0) λBa=>some (5,(⟨r1.fO,r1.fJ,r1.fU,r1.fT,r1.fG,Ba,r1.fV⟩:Request)) else Qab (Qb5 fu Aa (⟨#[105,116,101,109]⟩:ByteArray) 7) λAc=>bif Ac.2 then Qab (ix Ac.1 0) λAh=>Qab (ix Ac.1 1) λAo=>Qab (ix Ac.1 2) λAx=>Qab (ix Ac.1 3) λAm=>Qab (ix Ac.1 4) λAk=>Qab (ix Ac.1 5) λBc=>Qab (ix Ac.1 6) λAj=>Qab (Qfd 56 r1.fV (([(⟨Ah,Ao,Ax,Am,Ak,Bc,Aj⟩:Item)]:List Item))) λAy=>some (6,(⟨r1.fO,r1.fJ,r1.fU,r1.fT,r1.fG,r1.fR,Ay⟩:Request)) else some ((-1),r1)
def Qf6 (fu:Nat)   : Option (Bool) :=
  some (false)
def Qln (fu:Nat) (Aa:Int) (Ab:Int):Option (Bool) :=
  bif (Ab==0) then bif (Ab==0) then some (Aa==(w64 (Ab - 1))) else bif (Ab==3) then bif (Aa==2) then some (true) else some (Aa==3) else bif (Ab==4) then Qab (Qar fu Aa 2 4) λAg=>some (Ag) else bif (Ab==5) then Qab (Qar fu Aa 2 4) λAe=>some (Ae) else bif (Ab==6) then bif (Aa==5) then some (true) else some (Aa==6) else Qf6 fu else bif (Ab==1) then bif (Ab==1) then some (Aa==(w64 (Ab - 1))) else bif (Ab==3) then bif (Aa==2) then some (true) else some (Aa==3) else bif (Ab==4) then Qab (Qar fu Aa 2 4) λAc=>some (Ac) else bif (Ab==5) then Qab (Qar fu Aa 2 4) λAh=>some (Ah) else bif (Ab==6) then bif (Aa==5) then some (true) else some (Aa==6) else Qf6 fu else bif (Ab==2) then some (Aa==(w64 (Ab - 1))) else bif (Ab==3) then bif (Aa==2) then some (true) else some (Aa==3) else bif (Ab==4) then Qab (Qar fu Aa 2 4) λAd=>some (Ad) else bif (Ab==5) then Qab (Qar fu Aa 2 4) λAf=>some (Af) else bif (Ab==6) then bif (Aa==5) then some (true) else some (Aa==6) else Qf6 fu
def Qh7 (fu:Nat)  (x5:(List ByteArray)) (Ac:List ByteArray) (k1:Int→Int→Int→Int→Int→Int→List Pair→List Typ→Int→List Item→Int→Int→Option (Request×Int)) (Ao:Int) (Af:Int) (Ah:Int) (Ad:Int) (Ai:Int) (Aj:Int) (Ak:List Pair) (Am:List Typ) (Ag:Int) (Al:List Item) (Ae:Int) (Ab:Int):Option (Request×Int) :=
  bif (decide (Ab<(Ac.length:Int))) then Qab (ix Ac Ab) λAp=>Qab (Qoe fu ((⟨Ao,(⟨Af,Ah,Ad,Ai⟩:Pallet),Aj,Ak,Am,Ag,Al⟩:Request)) Ap) λAa=>Qab (Qln fu Ae Aa.1) λAq=>bif (!Aq) then some ((⟨0,(⟨0,0,0,0⟩:Pallet),0,[],[],0,[]⟩:Request),Ab) else k1 Aa.2.fO Aa.2.fJ.fW Aa.2.fJ.fD Aa.2.fJ.fH Aa.2.fJ.fQ Aa.2.fU Aa.2.fT Aa.2.fG Aa.2.fR Aa.2.fV Aa.1 (w64 (Ab+1)) else bif (decide (Ae<5)) then some ((⟨0,(⟨0,0,0,0⟩:Pallet),0,[],[],0,[]⟩:Request),w64 ((x5.length:Int) - 1)) else Qab (ix x5 (w64 ((x5.length:Int) - 1))) λAr=>bif (!(Ar.toList==(⟨#[]⟩:ByteArray).toList)) then some ((⟨0,(⟨0,0,0,0⟩:Pallet),0,[],[],0,[]⟩:Request),w64 ((x5.length:Int) - 1)) else some ((⟨Ao,(⟨Af,Ah,Ad,Ai⟩:Pallet),Aj,Ak,Am,Ag,Al⟩:Request),(-1))
def Qeu (fu:Nat)  (x5:(List ByteArray)) (Aa:List ByteArray):Nat→Int→Int→Int→Int→Int→Int→List Pair→List Typ→Int→List Item→Int→Int→Option (Request×Int)
  | 0=>λ_ _ _ _ _ _ _ _ _ _ _ _=>none
  | n+1=>Qh7 fu x5 Aa (Qeu fu x5 Aa n)
def Qht (fu:Nat) (Ab:ByteArray):Option (Request×Int) :=
  Qab (Qpr fu Ab 10) λx5=>bif (decide ((w64 ((x5.length:Int) - 1))>60)) then some ((⟨0,(⟨0,0,0,0⟩:Pallet),0,[],[],0,[]⟩:Request),60) else Qab (sls x5 0 (w64 ((x5.length:Int) - 1))) λAa=>Qeu fu x5 Aa fu 0 0 0 0 0 0 (([]:List Pair)) (([]:List Typ)) 0 (([]:List Item)) ((-1)) 0
def Qom (fu:Nat) (Ab:ByteArray):Option (Int) :=
  Qab (Qht fu Ab) λx2=>bif (decide (x2.2≥0)) then some (1) else Qab (Qpq fu x2.1) λAa=>some (Aa)
def Qgw (fu:Nat) (k3:Int→Option (Bool)) (Aa:Int)  : Option (Bool) :=
  k3 (w64 (Aa+1))
def Qhn (fu:Nat)  (Ab:List Int) (k3:Int→Option (Bool)) (Aa:Int):Option (Bool) :=
  bif (decide (Aa<(Ab.length:Int))) then Qab (ix Ab Aa) λAc=>Qab (Qar fu Ac 0 999) λAd=>bif (!Ad) then some (false) else bif (decide (Aa>0)) then Qab (ix Ab (w64 (Aa - 1))) λAe=>bif (decide (Ae≥Ac)) then some (false) else Qgw fu k3 Aa else Qgw fu k3 Aa else some (decide ((Ab.length:Int)≤100))
def Qdj (fu:Nat)  (Aa:List Int):Nat→Int→Option (Bool)
  | 0=>λ_=>none
  | n+1=>Qhn fu Aa (Qdj fu Aa n)
def Qjg (fu:Nat) (Aa:List Int):Option (Bool) :=
  Qdj fu Aa fu 0
def Qg4 (fu:Nat) (n1:Int):Option (Bool) :=
  Qab (Qar fu n1 0 2000) λx2=>some (x2)
def Qo9 (fu:Nat) (k4:Int→Option (Bool)) (Aa:Int)  : Option (Bool) :=
  k4 (w64 (Aa+1))
def Qmf (fu:Nat)  (x1:Plan) (k4:Int→Option (Bool)) (Aa:Int):Option (Bool) :=
  bif (decide (Aa<(x1.fK.length:Int))) then Qab (ix x1.fK Aa) λAc=>Qab (ix x1.qY Aa) λAb=>Qab (Qar fu Ac.qJ 0 999) λAd=>bif (!Ad) then some (false) else Qab (Qar fu Ac.ft 0 3) λAe=>bif (!Ae) then some (false) else Qab (Qjg fu Ac.qQ) λAi=>bif (!Ai) then some (false) else Qab (Qg4 fu Ab.fJ) λAj=>bif (!Aj) then some (false) else Qab (Qg4 fu Ab.fX) λAf=>bif (!Af) then some (false) else Qab (Qg4 fu Ab.fY) λAh=>bif (!Ah) then some (false) else Qab (Qg4 fu Ab.fZ) λAg=>bif (!Ag) then some (false) else Qo9 fu k4 Aa else some (true)
def Qfy (fu:Nat)  (x1:Plan):Nat→Int→Option (Bool)
  | 0=>λ_=>none
  | n+1=>Qmf fu x1 (Qfy fu x1 n)
def Qpc (fu:Nat) (x1:Plan)  : Option (Bool) :=
  Qfy fu x1 fu 0
def Qqd (fu:Nat) (x1:Plan):Option (Bool) :=
  bif ((x1.qY.length:Int) != (x1.fK.length:Int)) then some (false) else bif (decide ((x1.fK.length:Int)>100)) then some (false) else Qpc fu x1
def Qio (fu:Nat)  (x1:Plan) (k1:ByteArray→Int→Option (ByteArray)) (Ad:ByteArray) (Aa:Int):Option (ByteArray) :=
  bif (decide (Aa<(x1.fK.length:Int))) then Qab (ix x1.fK Aa) λAc=>Qab (ix x1.qY Aa) λAb=>Qab (Qfd 8 (([Ac.qJ,Ac.ft,Ab.fJ,Ab.fX,Ab.fY,Ab.fZ]:List Int)) Ac.qQ) λAf=>Qab (Qhb fu (⟨#[99,97,114,116,111,110]⟩:ByteArray) Af) λAg=>Qab (Q5d Ad Ag.1) λAe=>k1 Ae (w64 (Aa+1)) else some (Ad)
def Qdn (fu:Nat)  (x1:Plan):Nat→ByteArray→Int→Option (ByteArray)
  | 0=>λ_ _=>none
  | n+1=>Qio fu x1 (Qdn fu x1 n)
def Qhf (fu:Nat) (x1:Plan):Option (ByteArray) :=
  Qab (Qqd fu x1) λAa=>bif (!Aa) then some (⟨#[]⟩:ByteArray) else Qdn fu x1 fu (⟨#[]⟩:ByteArray) 0
def Qkx (fu:Nat) (Aa:ByteArray):Option (ByteArray×Int) :=
  Qab (Qom fu Aa) λx2=>bif (x2 != 0) then some ((⟨#[]⟩:ByteArray),x2) else Qab (Qht fu Aa) λx7=>Qab (Qn8 fu x7.1) λAc=>Qab (Qhf fu Ac.1) λAb=>some (Ab,0)
end Go.Proofs.YtndfoffokpdjeaaGreatDoor
